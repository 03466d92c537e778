/- A part of the last text's proof; no condition of its own -/
import Derived.Test.YtpfajohmofnkfaaGreatDoorYg
import Derived.KernelRfl
import Derived.Test.YtpfajohmofnkfaaGreatDoorProg
set_option maxHeartbeats 8000000
set_option linter.all false
namespace Go.Proofs.YtpfajohmofnkfaaGreatDoor
open Go.bd
noncomputable section
structure cb where
 G:K ag
 a2:Nat
 O:Nat->List D->Option D
noncomputable def o(a:cb):aL:=⟨Tryz.prog,a.G,a.a2,a.O,Tryz.prog.globals.size⟩
instance:Coe cb aL:=⟨o⟩
variable (X : cb) (h : K ag) (j : Nat) (ak av : bI) (a0 ba cj a3 a4 a5 hy h3 h4 : D)
abbrev ke(v x:D)(h:K ag)(n:Nat)(q:bI):Prop:=pP q λW=>iP true v (W x h n) (W bd.undef h n)
abbrev hr(v x:D)(h:K ag)(n:Nat)(q:bI):Prop:=pP q λW=>iP false v (W x h n) (W bd.undef h n)
abbrev eZ(v:D)(U:Option D)(h:K ag)(n:Nat)(q:bI):Prop:=pP q λW=>iP true v (ax U λx=>W x h n) (W bd.undef h n)
abbrev fJ(v:D)(U:Option D)(h:K ag)(n:Nat)(q:bI):Prop:=pP q λW=>iP false v (ax U λx=>W x h n) (W bd.undef h n)
abbrev oa(v:D)(U:Option D)(h:K ag)(n:Nat)(q:bI):Prop:=pP q λW=>iP true v (cL U λx=>W x h n) (W bd.undef h n)
abbrev Bg(v:D)(U:Option D)(h:K ag)(n:Nat)(q:bI):Prop:=pP q λW=>iP false v (cL U λx=>W x h n) (W bd.undef h n)
abbrev avU(v:D)(U:Option D)(ah:D->Option D)(h:K ag)(n:Nat)(q:bI):Prop:=pP q λW=>iP true v (cL U λt=>ax (ah t) λx=>W x h n) (W bd.undef h n)
abbrev afx(v:D)(U:Option D)(ah:D->Option D)(h:K ag)(n:Nat)(q:bI):Prop:=pP q λW=>iP false v (cL U λt=>ax (ah t) λx=>W x h n) (W bd.undef h n)
abbrev m4(v:D)(g:bI->Prop)(h:K ag)(n:Nat)(q:bI):Prop:=pP q λW=>iP true v (g W) (W bd.undef h n)
abbrev m3(v:D)(g:bI->Prop)(h:K ag)(n:Nat)(q:bI):Prop:=pP q λW=>iP false v (g W) (W bd.undef h n)
abbrev Pw(v x:D)(h:K ag)(q:D->K ag->Prop):Prop:=ws q λW=>iP false v (W x h) (W bd.undef h)
abbrev kd(v:D)(U:Option D)(h:K ag)(q:D->K ag->Prop):Prop:=ws q λW=>iP true v (ax U λx=>W x h) (W bd.undef h)
abbrev yB(v:D)(U:Option D)(h:K ag)(q:D->K ag->Prop):Prop:=ws q λW=>iP false v (ax U λx=>W x h) (W bd.undef h)
abbrev Lz(v:D)(U:Option D)(h:K ag)(q:D->K ag->Prop):Prop:=ws q λW=>iP true v (cL U λx=>W x h) (W bd.undef h)
abbrev UR(v:D)(U:Option D)(h:K ag)(q:D->K ag->Prop):Prop:=ws q λW=>iP false v (cL U λx=>W x h) (W bd.undef h)
abbrev US(v:D)(U:Option D)(ah:D->Option D)(h:K ag)(q:D->K ag->Prop):Prop:=ws q λW=>iP true v (cL U λt=>ax (ah t) λx=>W x h) (W bd.undef h)
abbrev afw(v:D)(U:Option D)(ah:D->Option D)(h:K ag)(q:D->K ag->Prop):Prop:=ws q λW=>iP false v (cL U λt=>ax (ah t) λx=>W x h) (W bd.undef h)
abbrev Pv(v:D)(g:(D->K ag->Prop)->Prop)(h:K ag)(q:D->K ag->Prop):Prop:=ws q λW=>iP false v (g W) (W bd.undef h)
abbrev fy(aS)(I:D)(J:aL)(am:(K ag))(q:D->D->Prop):=ax (hv aS I) λbM=>ax (aO J am bM) λbQ=>q bM bQ
abbrev gt(aS:cV)(I)(am)(q:D->D->Prop):=cL (aS I) λbM=>cL (aS am) λbQ=>q bM bQ
abbrev gU(aS:cV)(I)(q:D->Prop):=cL (aS I) λbM=>ax (bq .add bM (.Z 1)) q
abbrev y3(aB:Nat)(bk:aL)(b6:(K ag))(q:D->(K ag)->Nat->Prop):=ax (km [.Z 0, .str [], .Z 0, .int .u64 0, .zF, .zF, .Z 0] aB) λbM=>gw bk b6 aB bM.1 bM.2 q
abbrev h1(aS:D)(I)(J:aL)(am:(K ag))(q:D->D->Prop):=ax (rN aS) λbM=>fy I bM J am q
abbrev hn(I:D)(q:D->D->Prop):=ax (pg 0 I) λbM=>ax (pg 1 I) λbQ=>q bM bQ
abbrev mq(aS:cV)(I)(J:aL)(am:(K ag))(aB)(bk:D)(q:(K ag)->D->Prop):=cL (aS I) λbM=>ax (gj J am aB bM bk) λbQ=>cL (aS I) λcf=>ax (d8 J bQ aB cf) λcM=>q bQ cM
abbrev hJ(aS:cV)(I)(J)(q:D->Prop):=gt aS I J λbM bQ=>ax (bq .lss bM bQ) q
abbrev ML(I:D)(J:D)(am:aL)(aB:(K ag))(g5:Nat)(q:D->Nat->(K ag)->Prop):=ax (gv 8 I J) λbM=>ax (d8 am aB 8 bM) λbQ=>ax (km [.str [], .Z 0, .zF, .zF, .Z 0, .str [], .Z 0, .zF] g5) λcf=>gw am aB g5 cf.1 cf.2 λcM ew h5=>ax (gj am ew 8 cM bQ) λkn=>q cM h5 kn
abbrev QS(b6:Nat)(c5:aL)(eb:(K ag))(vR:D)(q:D->Nat->(K ag)->Prop):=ax (km [.Z 0, .str [], .Z 0, .zF, .zF, .Z 0, .str [], .Z 0, .zF, .Z 0, .Z 0] b6) λbM=>gw c5 eb b6 bM.1 bM.2 λbQ cf cM=>ax (gj c5 cf 11 bQ vR) λew=>q bQ cM ew
abbrev DB(I:D)(J:D)(am:aL)(aB:(K ag))(c5:Nat)(q:D->Nat->(K ag)->Prop):=ax (gv 6 I J) λbM=>ax (d8 am aB 6 bM) λbQ=>ax (km [.str [], .Z 0, .aV, .aV, .aV, .aV] c5) λcf=>gw am aB c5 cf.1 cf.2 λcM ew h5=>ax (gj am ew 6 cM bQ) λkn=>q cM h5 kn
abbrev F2(aS)(I:cV)(J)(am)(bk:aL)(b6:(K ag))(g5:Nat)(q:fg->D->Nat->(K ag)->Prop):=bB aS λbM=>gt I J am λbQ cf=>ax (gv 4 bQ cf) λcM=>ax (d8 bk b6 4 cM) λew=>ax (km [.aV, .aV, .Z 0, .cx] g5) λh5=>gw bk b6 g5 h5.1 h5.2 λkn oC s5=>ax (gj bk oC 4 kn ew) λGz=>q bM kn s5 Gz
abbrev oq(aS:D)(I)(J:fg)(q:D->fg->Prop):=ax (bq .eql aS (.Z I)) λbM=>bB J λbQ=>q bM bQ
abbrev WS(aS:aL)(I)(J:D)(am:(K ag))(aB:Nat)(bk:bI)(q:D->D->Nat->(K ag)->D->Prop):=aY aS I [J] am aB (λbM bQ cf=>hn bM λcM ew=>ax (km [.Z 0, .Z 0] cf) λh5=>gw aS bQ cf h5.1 h5.2 λkn oC s5=>ax (gj aS oC 2 kn ew) λGz=>fy 0 kn aS Gz λabk anD=>ax (bq .neq anD (.Z 0)) λanE=>q cM kn s5 Gz anE) bk
abbrev lh(aS:cV)(I)(J:aL)(am:(K ag))(q:D->Prop):=cL (aS I) λbM=>ax (aO J am bM) q
abbrev sM(aS:D)(I)(J:D)(am:(K ag))(aB:Nat)(b6:aL)(q:D->(K ag)->Nat->Prop):=fJ aS (hv I J) am aB λbM bQ cf=>fJ aS (aO b6 bQ bM) bQ cf q
abbrev kB(aS:D)(I)(q:D->Prop):=ax (rN aS) λbM=>ax (hv I bM) q
abbrev sN(am)(aB:Nat)(bk:aL)(b6:(K ag))(lp:D)(tf:bI)(q:D->(K ag)->Nat->Prop):=ax (hi 1 [.str []] [(0,1, .str [am])] aB) λbM=>gw bk b6 aB bM.1 bM.2 λbQ cf cM=>aY bk 172 [lp,bQ] cf cM q tf
abbrev kP(aS:cV)(I)(J)(am:aL)(aB:(K ag))(q:D->D->D->Prop):=cL (aS I) λbM=>h1 bM J am aB λbQ cf=>q bM bQ cf
abbrev vl(aS:D)(I)(J:D)(am:(K ag))(aB:Nat)(b6:aL)(q:D->(K ag)->Nat->Prop):=eZ aS (hv I J) am aB λbM bQ cf=>eZ aS (aO b6 bQ bM) bQ cf q
abbrev je(aS:D)(I)(q:D->fg->Prop):=ax (gy aS) λbM=>bB I λbQ=>q bM bQ
abbrev uc(aS)(I:cV)(J)(am)(bk:aL)(b6:(K ag))(q:fg->D->Prop):=bB aS λbM=>gt I J am λbQ cf=>ax (gv 1 bQ cf) λcM=>ax (aO bk b6 cM) λew=>q bM ew
abbrev jL(aS:cV)(I)(J)(am:aL)(aB:(K ag))(q:D->D->Prop):=cL (aS I) λbM=>fy J bM am aB q
abbrev BL(J:Nat)(am:aL)(aB:(K ag))(q:D->(K ag)->Nat->Prop):=ax (km [.Z 0, .Z 0] J) λbM=>gw am aB J bM.1 bM.2 q
abbrev xv(aS:Nat)(I:aL)(J:(K ag))(bk:D)(q:D->Nat->(K ag)->Prop):=y3 aS I J λbM bQ cf=>ax (gj I bQ 7 bM bk) λcM=>q bM cf cM
abbrev sO(aS:cV)(I)(J)(q:D->Prop):=cL (aS I) λbM=>ax (bq .eql bM (.Z J)) q
abbrev nk(aS:aL)(I:(K ag))(am:D)(aB:D)(q:(K ag)->Prop):=ax (gj aS I 1 am aB) q
abbrev MI(aB)(c5:D)(q:D->Prop):=ax (e8 [.Z 0, .Z 0] [(0,1, .Z aB),(1,1,c5)]) q
abbrev sP(aS:cV)(I)(J:aL)(am:(K ag))(aB)(q:D->Prop):=cL (aS I) λbM=>ax (d8 J am aB bM) q
abbrev F3(aS:D)(I:cV)(J)(am:(K ag))(b6)(eb:aL)(q:D->(K ag)->Prop):=Lz aS (I J) am λbM bQ=>kd aS (rN bM) bQ λcf cM=>kd aS (hv b6 cf) cM λew h5=>kd aS (aO eb h5 ew) h5 q
abbrev ph(I)(q:D->Prop):=ax (some (D.iface 281 (.Z I))) q
abbrev Jg(I:Nat)(J:aL)(am:(K ag))(q:D->(K ag)->Nat->Prop):=ax (km [.zF, .zF, .Z 0] I) λbM=>gw J am I bM.1 bM.2 q
abbrev eQ(aS:cV)(q:D->Prop):=cL (aS 0) q
abbrev it(aS:aL)(I:(K ag))(am:D)(q:D->Prop):=ax (d8 aS I 3 am) q
abbrev xw(aS)(I:D)(q:D->Prop):=ax (gv aS I (.Z 0)) q
abbrev QU(aS:D)(I:D)(J:(K ag))(am:Nat)(b6:aL)(eb)(q:D->(K ag)->Nat->Prop):=fJ aS (rN I) J am λbM bQ cf=>sM aS 0 bM bQ cf b6 λcM ew h5=>fJ aS (bq .eql cM (.Z eb)) ew h5 q
abbrev aiD(aS:D)(I:aL)(J:(K ag))(bk)(q:D->Prop):=ax (gy aS) λbM=>ax (qY I J .min [3,3] [bM, .Z bk]) λbQ=>ax (tZ I J 1 aS none (some bQ) none) q
abbrev Jh(am:Nat)(aB:aL)(bk:(K ag))(q:D->(K ag)->Nat->Prop):=ax (km [.str [], .Z 0, .zF, .zF, .Z 0, .str [], .Z 0, .zF] am) λbM=>gw aB bk am bM.1 bM.2 q
abbrev WT(aS:cV)(I)(J)(q:D->Prop):=cL (aS I) λbM=>ax (bq .sub bM (.Z J)) q
abbrev mN(aS)(I:cV)(J)(am)(q:fg->D->D->Prop):=bB aS λbM=>gt I J am λbQ cf=>q bM bQ cf
abbrev DC(aS:aL)(I:(K ag))(J:Nat)(am)(aB)(b6)(c5:D)(q:D->(K ag)->Nat->Prop):=gw aS I J am aB λbM bQ cf=>hZ (kG aS bQ cf b6 c5 bM) bQ cf q
abbrev DD(aS:aL)(I:(K ag))(J)(am:D)(aB:D)(q:(K ag)->D->Prop):=ax (gj aS I J am aB) λbM=>ax (d8 aS bM J am) λbQ=>q bM bQ
abbrev WU(I:D)(J:aL)(am:(K ag))(q:D->Prop):=fy 2 I J am λbM bQ=>fy 3 I J am λcf cM=>fy 4 I J am λew h5=>ax (e8 [.aV, .aV, .aV] [(0,1,bQ),(1,1,cM),(2,1,h5)]) q
abbrev F4(aS:D)(q:D->Prop):=ax (bq .neq aS (.Z 0)) q
abbrev WV(aS:aL)(J:D)(am:D)(aB:(K ag))(bk:Nat)(b6:bI)(q:D->D->Nat->(K ag)->Prop):=aY aS 34 [J,am] aB bk (λbM bQ cf=>hn bM λcM ew=>QS cf aS bQ cM λh5 kn oC=>q ew h5 kn oC) b6
abbrev BM(aS:cV)(I)(q:D->Prop):=eQ aS λbM=>ax (nf bM (some (.Z I)) none) q
abbrev F5(q:D->Prop):=ax (e8 [.Z 0, .Z 0] []) q
abbrev kQ(I:D)(J:aL)(am:(K ag))(q:D->Prop):=fy 0 I J am λ_ bQ=>q bQ
abbrev QV(aS:D)(I:cV)(J)(am:(K ag))(b6)(eb:aL)(q:D->D->(K ag)->Prop):=UR aS (I J) am λbM bQ=>yB aS (rN bM) bQ λcf cM=>yB aS (hv b6 cf) cM λew h5=>yB aS (aO eb h5 ew) h5 λkn oC=>q ew kn oC
abbrev sQ(aS:cV)(I)(J)(am:fg)(q:D->fg->Prop):=cL (aS I) λbM=>oq bM J am q
abbrev rO(aS:aL)(I:(K ag))(am:D)(aB)(q:(K ag)->Prop):=ax (gj aS I 1 am (.Z aB)) q
abbrev QW(b6:Nat)(c5)(eb:aL)(g5:(K ag))(q:D->(K ag)->Prop):=ax (km [.Z 0, .str [], .Z 0, .zF, .zF, .Z 0, .str [], .Z 0, .zF, .Z 0, .Z 0] (b6+c5)) λbM=>mF eb g5 (b6+c5) bM.1 bM.2 q
abbrev DE(aS:D)(q:D->Prop):=ax (bq .add aS (.Z 1)) q
abbrev QX(aS:aL)(I:(K ag))(g5:D)(lp:D)(q:D->D->Prop):=ax (lO aS I 9 (.agg [.Z 0, .str [], .Z 0, .zF, .zF, .Z 0, .str [], .Z 0, .zF, .Z 0, .Z 0]) g5 lp true) λbM=>hn bM q
abbrev Ji(aS:cV)(I)(J)(q:D->Prop):=cL (aS I) λbM=>ax (bq .lss bM (.Z J)) q
abbrev Jj(aS:Nat)(I:aL)(J:(K ag))(q:D->(K ag)->Nat->Prop):=ax (km [.cx] aS) λbM=>gw I J aS bM.1 bM.2 q
abbrev F6(aS)(I:D)(J:D)(am:aL)(aB:(K ag))(q:D->Prop):=ax (gv aS I J) λbM=>ax (d8 am aB aS bM) q
abbrev F7(aS:aL)(I:(K ag))(J)(am:D)(bk)(c5:Nat)(eb:bI)(q:D->(K ag)->Nat->Prop):=ax (d8 aS I J am) λbM=>aY aS bk [bM] I c5 q eb
abbrev WW(aS:D)(I:cV)(J)(am:(K ag))(lp:aL)(q:D->(K ag)->Prop):=Lz aS (I J) am λbM bQ=>kd aS (gv 3 bM (.Z 0)) bQ λcf cM=>kd aS (hv 0 cf) cM λew h5=>kd aS (aO lp h5 ew) h5 λkn oC=>kd aS (hp .not kn) oC q
abbrev F8(I:D)(J:D)(am:aL)(aB:(K ag))(q:D->Prop):=ax (gv 1 I J) λbM=>ax (aO am aB bM) q
abbrev rP(aS:aL)(I:(K ag))(am:D)(aB:D)(q:(K ag)->Prop):=ax (gj aS I 2 am aB) q
abbrev xx(aS:cV)(I)(J:aL)(am)(aB:(K ag))(bk:Nat)(b6:bI)(q:D->(K ag)->Nat->Prop):=cL (aS I) λbM=>aY J am [bM] aB bk q b6
abbrev QY(aS:Nat)(J:D)(aB:aL)(bk:(K ag))(eb:D)(lp:bI)(q:D->Nat->D->(K ag)->D->Prop):=fb (aS+12) λbM=>h1 J 8 aB bk λbQ cf=>aY aB 208 [eb] bk bM (λcM ew h5=>ax (hi 1 [.cx] [(0,1,cM)] (aS+7)) λkn=>mF aB ew (aS+7) kn.1 kn.2 λoC s5=>ax (aO aB s5 bQ) λGz=>q cf h5 oC s5 Gz) lp
abbrev DF(aS:D)(I:fg)(q:D->fg->Prop):=ax (gy aS) λbM=>bB I λbQ=>q bM bQ
abbrev QZ(aS:cV)(aB:(K ag))(bk:Nat)(q:D->D->(K ag)->Nat->Prop):=eQ aS λbM=>ax (m8 bM) λbQ=>ax (bq .geq bQ (.Z 3)) λcf=>oa cf (aS 0) aB bk λcM ew h5=>eZ cf (n9 cM (.Z 1)) ew h5 λkn oC s5=>q cf kn oC s5
abbrev xy(aS:aL)(I:(K ag))(am:D)(q:D->Prop):=ax (d8 aS I 2 am) q
abbrev ot(aS:cV)(am:aL)(aB:(K ag))(q:D->Prop):=kP aS 0 0 am aB λ_ _ cf=>q cf
abbrev aiE(I:Nat)(J:aL)(am:(K ag))(bk:cV)(c5)(q:D->(K ag)->Nat->Prop):=ax (hi 0 [] [] I) λbM=>gw J am I bM.1 bM.2 λbQ cf cM=>eQ bk λew=>hZ (kG J cf cM c5 bQ ew) cf cM q
abbrev BN(aS:D)(I:D)(J:(K ag))(am:Nat)(bk)(b6:aL)(q:D->(K ag)->Nat->Prop):=eZ aS (rN I) J am λbM bQ cf=>vl aS bk bM bQ cf b6 q
abbrev F9(aS:D)(I:D)(J:(K ag))(am:Nat)(bk)(b6:aL)(q:D->(K ag)->Nat->Prop):=fJ aS (rN I) J am λbM bQ cf=>sM aS bk bM bQ cf b6 q
abbrev sR(aS)(I:D)(J:aL)(am:(K ag))(aB:D)(q:(K ag)->Prop):=ax (hv aS I) λbM=>nk J am bM aB q
abbrev MJ(aB:D)(bk:Nat)(q:(D×ag)->Prop):=ax (hi 1 [.zF, .zF, .Z 0] [(0,3,aB)] bk) q
abbrev Ga(aS:D)(I:aL)(J:(K ag))(am)(q:D->Prop):=kQ aS I J λbM=>ax (bq .eql bM (.Z am)) q
abbrev Q0(b6)(c5)(g5:D)(q:D->Prop):=ax (e8 [.Z 0, .str [], .Z 0, .int .u64 0, .zF, .zF, .Z 0] [(0,1, .Z b6),(c5,1,g5)]) q
abbrev Gb(aS:D)(q:D->Prop):=ax (bq .geq aS (.Z 0)) q
abbrev BO(aS:D)(I:fg)(q:D->fg->Prop):=ax (hp .not aS) λbM=>bB I λbQ=>q bM bQ
abbrev Q1(c5:D)(eb:Nat)(g5:aL)(lp:(K ag))(ars:D)(q:D->(K ag)->Nat->Prop):=ax (hi 1 [.Z 0, .str [], .Z 0, .int .u64 0, .zF, .zF, .Z 0] [(0,7,c5)] eb) λbM=>DC g5 lp eb bM.1 bM.2 7 ars q
abbrev rQ(aS:D)(I)(J:aL)(am:(K ag))(aB:D)(q:(K ag)->Prop):=kB aS I λbM=>nk J am bM aB q
abbrev ou(aS:cV)(q:D->Prop):=cL (aS 5) q
abbrev Q2(q:D->Prop):=ax (e8 [.Z 0, .str [], .Z 0, .int .u64 0, .zF, .zF, .Z 0] []) q
abbrev Q3(aS:aL)(I:(K ag))(am:D)(q:D->Prop):=ax (dw aS I .eql 23 true am .cx) q
abbrev aiF(aS:aL)(I:(K ag))(J:Nat)(q:D->Nat->(K ag)->Prop):=gw aS I J (.map J) (.map [] 0) λbM bQ cf=>ax (km [.mi] cf) λcM=>gw aS bQ cf cM.1 cM.2 λew h5 kn=>nk aS h5 ew bM λoC=>q ew kn oC
abbrev Q4(aS:D)(I:cV)(am:(K ag))(aB:Nat)(g5:aL)(q:D->(K ag)->Nat->Prop):=oa aS (I 0) am aB λbM bQ cf=>eZ aS (rN bM) bQ cf λcM ew h5=>eZ aS (hv 4 cM) ew h5 λkn oC s5=>eZ aS (d8 g5 oC 3 kn) oC s5 q
abbrev MK(aS:D)(J)(q:D->Prop):=ax (n9 aS (.Z 0)) λbM=>ax (bq .eql bM (.int .u8 J)) q
abbrev MM(aS:D)(q:D->Prop):=ax (bq .sub aS (.Z 1)) q
abbrev ud(aS:D)(I:Nat)(J:aL)(am:(K ag))(q:D->D->Nat->(K ag)->Prop):=hn aS λbM bQ=>xv I J am bM λcf cM ew=>q bQ cf cM ew
abbrev ov(aS:cV)(q:D->Prop):=cL (aS 4) q
abbrev Q5(aS:cV)(I)(q:D->Prop):=cL (aS I) λbM=>ax (nW .u64 bM) q
abbrev y4(aS:cV)(I)(J:aL)(am:(K ag))(aB)(q:D->Prop):=lh aS I J am λbM=>h1 bM aB J am λ_ cf=>q cf
abbrev qb(aS:cV)(q:D->Prop):=cL (aS 3) q
abbrev BP(aS:aL)(I:(K ag))(J:D)(am)(q:D->D->Prop):=ax (aO aS I J) λbM=>h1 bM am aS I λ_ cf=>q bM cf
abbrev Q6(aS:D)(I:cV)(J)(am)(aB:(K ag))(bk:Nat)(c5:aL)(q:D->(K ag)->Nat->Prop):=avU aS (I J) am aB bk λbM bQ cf=>eZ aS (aO c5 bQ bM) bQ cf q
abbrev aiG(I:D)(J:aL)(am:(K ag))(q:D->Prop):=fy 5 I J am λbM bQ=>ax (dw J am .neq 9 true bQ (.str [])) q
abbrev Jk(aS)(I:cV)(J)(am)(q:fg->D->D->D->Prop):=mN aS I J am λbM bQ cf=>cL (I J) λcM=>q bM bQ cf cM
abbrev F1(aS:cV)(aB:aL)(bk:(K ag))(q:D->D->D->Prop):=gt aS 8 2 λbM bQ=>xw 3 bQ λcf=>it aB bk cf λcM=>q bM cf cM
abbrev sL(aS:cV)(q:D->Prop):=cL (aS 1) q
abbrev Ja(aS)(I:D)(q:D->Prop):=MI aS I λbM=>ax (some (D.iface 26 bM)) q
abbrev WR(aS:aL)(I:(K ag))(J:D)(b6:D)(q:D->Prop):=it aS I J λbM=>ax (dw aS I .neq 41 false b6 bM) q
abbrev MF(aS:cV)(am:aL)(aB:(K ag))(q:(K ag)->Prop):=kP aS 0 1 am aB λbM bQ cf=>DE cf λcM=>rQ bM 1 am aB cM q
abbrev Jb(aS:D)(I)(J:(K ag))(am:Nat)(q:D->(K ag)->Nat->Prop):=m3 aS I J am λbM bQ cf=>fJ aS (hp .not bM) bQ cf q
abbrev Jc(aS:aL)(I:(K ag))(am:D)(q:D->Prop):=ax (dw aS I .eql 9 true am (.str [])) q
abbrev MG(aS:D)(I)(J:(K ag))(am:Nat)(q:D->(K ag)->Nat->Prop):=m4 aS I J am λbM bQ cf=>eZ aS (hp .not bM) bQ cf q
abbrev Jd(aS:D)(I:D)(q:D->Prop):=ax (gy aS) λbM=>ax (bq .add I bM) q
abbrev aiC(aS:cV)(I:aL)(J:(K ag))(am:D)(q:(K ag)->D->Prop):=ov aS λbM=>rP I J bM am λbQ=>jL aS 4 0 I bQ λcf cM=>F4 cM λew=>q bQ ew
abbrev QT(aS:D)(I:Nat)(J:aL)(am:(K ag))(q:D->D->Nat->(K ag)->Prop):=hn aS λbM bQ=>Jg I J am λcf cM ew=>ax (gj J cM 3 cf bM) λh5=>q bQ cf ew h5
abbrev BK(aS:cV)(I)(J:fg)(q:D->fg->Prop):=cL (aS I) λbM=>bB J λbQ=>q bM bQ
abbrev Je(aS:D)(q:D->Prop):=ax (bq .lss aS (.Z 0)) q
abbrev MH(aS:D)(q:D->Prop):=ax (bq .gtr aS (.Z 0)) q
abbrev Jf(aS:aL)(J:D)(am)(aB:(K ag))(bk:Nat)(b6:bI)(q:D->Nat->(K ag)->Prop):=aY aS 174 [J, .str [am]] aB bk (λbM bQ cf=>ud bM cf aS bQ λcM _ h5 kn=>q cM h5 kn) b6
def IQ(a:aL)(b:bI):fg:=λc d e=>nI a [.cell 2 23, .cell 3 26] b c c.bc d e
def L4(a:aL)(b c:bI):sZ:=λd e f g=>wP a [.cell 2 23, .cell 3 26] b c d e d.bc f g
def XA(a:aL)(b:D)(c:K ag)(d:Nat)(e f:bI):Prop:=
 Jj d a c λc d g=>BL g a d λd g h=>aY a 66 [b] g h (λg h i=>hn g λg j=>rP a h d j λh=>kQ d a h λj=>F4 j λj=>bB (λb c d=>gt b 2 3 λg h=>JV (.func (.func 67) [] [g,h]) [] b λb=>ov b λg=>ax (e8 [.aV, .Z 0] [(0,1,g)]) λg=>iv a c d g λc d g=>aY a 68 [c] d g (λc d g=>cL (b 2) λh=>nk a d h c λc=>lh b 2 a c λd=>aY a 69 [d] c g (λ_ c d=>lh b 2 a c λf=>F5 λg=>cL (b 2) λh=>nk a c h f λc=>qb b λf=>rP a c f g λc=>IQ a e b c d) (L4 a e f (hL [19,20] b))) (L4 a e f (hL [15,16,17,18] b))) λf=>aZ j (fb (i+3) λf=>xy a h d λi=>ax (gj a h 1 c .cx) λh=>xy a h d λk=>gT k (some i) (rP a h d i λh=>IQ a e (zA (cO [b]) 2 c 3 d 4 g 12 j) h f)) (f (zA (cO [b]) 2 c 3 d 4 g 12 j) h i)) (L4 a e f (hL [6,7,5,8,9,4] (zy (cO [b]) 2 c 3 d)))
def ajX:Cl X 15 [a0] h j ak av=XA X a0 h j ak av:=Zk
def ajW:cW X 15 1=true:=Zk
def Rp(a:aL)(b c:D)(d:Option D)(e:K ag)(f:Nat)(g:Bool->K ag->Nat->Prop):Prop:=
 IM (some d) (cO [b,c]) λb c=>bB (λa b c=>g a.rc b c) λd=>ax (dw a e .eql 20 true b .nilIface) λg=>bB d λd=>aZ g (d (zy c 5 b 7 g) e f) (ax (Gx 26 (.agg [.Z 0, .Z 0]) true b) λh=>ax (pg 1 h) λi=>ax (pg 0 h) λh=>bB d λd=>aZ i (BL f a e λe f j=>rP a f e h λf=>fb (j+3) λj=>xy a f e λk=>eQ c λl=>ax (gj a f 1 l .cx) λf=>xy a f e λl=>gT l (some k) (sL c λl=>rP a f l k λa=>d (aa (zA c 5 b 7 g 9 i 10 h) 3 e) a j)) (wQ (λ_ _ _=>False) b e f))
def aaw(X:cb)(a0 ba:D)(jX:Option D)(h:K ag)(j:Nat)(ak:Bool->K ag->Nat->Prop):Ay X 67 [a0,ba] jX h j ak=Rp X a0 ba jX h j ak:=Zk
def Rq:cW X 67 2=true:=Zk
def aax(a:aL)(b:D)(c:K ag)(d:Nat)(e f:bI):Prop:=
 ax (e8 [.aV] []) λg=>iv a c d g λc d g=>bB (λa b c=>qb a λa=>e a b c) λe=>fF (λb c d g=>ov c λh=>bB (λc d e=>bB (λc d e=>eQ c λg=>aY a 116 [g] d e (λa d e=>ax (r6 false 0 1 a) λa=>ax (bq .neq a (.Z 7)) λa=>b (aa c 4 a) d e) f) λb=>fb (e+12) λg=>gt c 3 3 λh i=>h1 i 0 a d λi j=>eQ c λk=>aY a 117 [k] d g (λd f g=>ax (hi 1 [.str [], .Z 0, .aV, .aV, .aV, .aV] [(0,6,d)] (e+7)) λd=>mF a f (e+7) d.1 d.2 λd e=>ax (aO a e i) λf=>gT f (some j) (hZ (kG a e g 6 j d) e g λd e f=>rQ h 0 a e d λa=>b c a f)) f) λa=>aZ h (a (aa c 7 h) d g) (e (aa c 7 h) d g)) (zz (cO [b]) 2 .cx 3 c 4 .zT) d g
def ami:dg X 68 [a0] h j ak av=aax X a0 h j ak av:=Zk
def amh:cW X 68 1=true:=Zk
def aay(a:aL)(b:D)(c:K ag)(d:Nat)(e f:bI):Prop:=
 h1 b 0 a c λ_ g=>ax (gy g) λg=>ax (bq .gtr g (.Z 64)) λg=>bB (λb c d=>ot b a c λg=>je g (λ_ a b=>e (.tuple []) a b) λe h=>fF (λb c d e=>hJ c 26 25 λg=>bB (λc d e=>mN (λa c d=>gU a 26 λe=>b (aa a 26 e) c d) c 24 26 λb g h=>DB g h a d e λd e g=>fy 2 d a g λ_ h=>ax (gy h) λh=>fy 3 d a g λ_ i=>Jd i h λh=>fy 4 d a g λ_ i=>Jd i h λh=>ax (bq .gtr h (.Z 256)) λh=>sM h 5 d g e a λe g i=>fJ h (gy e) g i λe g i=>fJ h (bq .gtr e (.Z 4096)) g i λe g i=>dh (λe=>bB (λc d e=>jL c 3 5 a d λ_ g=>DF g b λb h=>fF (λb c d e=>hJ c 55 54 λg=>bB (λc d e=>F2 (λa c d=>gU a 55 λe=>b (aa a 55 e) c d) c 53 55 a d e λb d e g=>fy 3 d a g λ_ h=>aY a 118 [h] g e (λe g h=>ax (bq .gtr e (.Z 200)) λe=>bB b λb=>aZ e (fy 2 d a g λ_ a=>Ja 22 a λa=>wQ f a g h) (b (zy c 5 d 62 e) g h)) f) λa=>aZ g (a (aa c 56 g) d e) (h (aa c 56 g) d e)) (zz c 53 g 54 b 55 (.Z 0)) d e) λb=>aZ e (fy 1 d a g λ_ a=>Ja 30 a λa=>wQ f a g i) (b (zy c 3 d 47 e) g i)) λa=>aZ h (a .zT) (a e)) λa=>aZ g (a (aa c 27 g) d e) (h (aa c 27 g) d e)) (zz b 24 g 25 e 26 (.Z 0)) c d) λe=>aZ g (h1 b 0 a c λ_ b=>ax (gv 6 b (.Z 64)) λb=>fy 1 b a c λ_ a=>Ja 30 a λa=>wQ f a c d) (e (aa (cO [b]) 11 g) c d)
def amk:dg X 69 [a0] h j ak av=aay X a0 h j ak av:=Zk
def amj:cW X 69 1=true:=Zk
def Xf(a:aL)(b:D)(c:K ag)(d:Nat)(e _:bI):Prop:=
 y3 d a c λc d f=>fb (f+11) λf=>h1 b 0 a d λ_ g=>h1 b 1 a d λ_ b=>F6 7 g b a d λb=>DD a d 7 c b λa b=>e b a f
def ajb:dg X 116 [a0] h j ak av=Xf X a0 h j ak av:=Zk
def aja:cW X 116 1=true:=Zk
def Xg(a:aL)(b:D)(c:K ag)(d:Nat)(e f:bI):Prop:=
 ax (km [.str [], .Z 0, .aV, .aV, .aV, .aV] d) λg=>gw a c d g.1 g.2 λc d g=>ax (hi 1 [.str []] [(0,1, .str [110,111,100,101])] g) λh=>gw a d g h.1 h.2 λd g h=>aY a 172 [b,d] g h (λ_ d g=>aY a 173 [b, .Z 1] d g (λd g h=>xv h a g d λd g h=>fy 1 d a h λ_ i=>fy 2 d a h λ_ j=>ax (e8 [.str [], .Z 0, .aV, .aV, .aV, .aV] [(0,1,i),(1,1,j)]) λi=>ax (km [.str [], .Z 0, .aV, .aV, .aV, .aV] g) λj=>gw a h g j.1 j.2 λg h j=>ax (gj a h 6 g i) λh=>sN 40 j a h b f λ_ h i=>Jf a b 41 h i f λh i j=>ax (hp .not h) λk=>bB (λb c d=>eQ b λg=>ax (hi 2 [.str [], .str []] [(0,1, .str [114,101,116,117,114,110,115]),(1,1, .str [40])] d) λh=>gw a c d h.1 h.2 λc d h=>aY a 172 [g,c] d h (λ_ c d=>eQ b λg=>aY a 175 [g, .zF] c d (λc d g=>ov b λh=>sR 3 h a d c λc=>eQ b λd=>sN 41 g a c d f λ_ c d=>eQ b λg=>aY a 174 [g, .str [118,97,114]] c d (λc d g=>ud c g a d λc _ d g=>bB (λb c d=>eQ b λg=>ax (hi 1 [.str []] [(0,1, .str [108,101,116])] d) λh=>gw a c d h.1 h.2 λc d h=>aY a 172 [g,c] d h (λ_ c d=>bB (λb c d=>sP b 2 a c 6 λa=>e a c d) λ_=>fF (λb c d g=>bB b λb=>eQ c λh=>aY a 174 [h, .str [116,101,108]] d g (λd g h=>ud d h a g λd _ g h=>bB (λc d e=>fb (e+8) λg=>jL c 4 5 a d λh i=>eQ c λj=>aY a 176 [j] d g (λd f g=>ax (hi 1 [.aV, .aV, .Z 0, .cx] [(0,4,d)] (e+4)) λd=>mF a f (e+4) d.1 d.2 λd e=>ax (aO a e h) λf=>gT f (some i) (hZ (kG a e g 4 i d) e g λd e f=>ov c λg=>sR 5 g a e d λa=>b c a f)) f) λb=>aZ d (sP c 4 a h 6 λb=>mq c 2 a h 6 b λa b=>e b a g) (b (zy c 10 d 66 d) h g)) f) b c d) f) λe=>aZ c (eQ b λh=>aY a 175 [h, .zT] g d (λd g h=>ov b λi=>sR 4 i a g d λd=>eQ b λg=>sN 59 h a d g f λ_ a d=>e (zy b 8 c 51 c) a d) f) (e (zy b 8 c 51 c) g d)) f) f) f) λe=>aZ k (aY a 175 [b, .zF] j i (λi j l=>sR 2 g a j i λi=>sN 41 l a i b f λ_ a f=>e (aa (zA (cO [b]) 2 c 3 d 4 g 6 h) 30 k) a f) f) (e (aa (zA (cO [b]) 2 c 3 d 4 g 6 h) 30 k) j i)) f) f
def ajd:dg X 117 [a0] h j ak av=Xg X a0 h j ak av:=Zk
def ajc:cW X 117 1=true:=Zk
def XM(a:aL)(b c:D)(d:K ag)(e:Nat)(f g:bI):Prop:=
 y3 e a d λd e h=>y3 h a e λe h i=>je c (λb c d=>sP b 5 a c 7 λe=>mq b 4 a c 7 e λa b=>f b a d) λf j=>fF (λb c d e=>hJ c 11 10 λf=>bB (λc d e=>uc (λa c d=>gU a 11 λe=>b (aa a 11 e) c d) c 9 11 a d λb f=>eQ c λh=>aY a 174 [h,f] d e (λd e h=>hn d λd i=>ou c λj=>ax (gj a e 7 j d) λd=>BO i b λb e=>aZ b (eQ c λj=>aY a 116 [j] d h (λd h j=>aY a 206 [d] h j (λ_ a d=>e (zA c 7 f 8 .zF 8 i 22 b) a d) g) g) (e (zA c 7 f 8 .zF 8 i 22 b) d h)) g) λa=>aZ f (a (aa c 12 f) d e) (j (aa c 12 f) d e)) (aa (zA (cO [b,c]) 4 d 5 e 9 c 10 f) 11 (.Z 0)) h i
def akh:dg X 172 [a0,ba] h j ak av=XM X a0 ba h j ak av:=Zk
def akg:cW X 172 2=true:=Zk
def XN(a:aL)(b c:D)(d:K ag)(e:Nat)(f g:bI):Prop:=
 y3 e a d λd e h=>aY a 116 [b] e h (λe h i=>xv i a h e λe h i=>kQ e a i λj=>ax (bq .neq j c) λj=>bB (λb c d=>MF b a c λc=>sP b 5 a c 7 λe=>mq b 4 a c 7 e λa b=>f b a d) λf=>aZ j (F7 a i 7 e 206 h g λ_ a g=>f (zz (cO [b,c]) 4 d 5 e 11 j) a g) (f (zz (cO [b,c]) 4 d 5 e 11 j) i h)) g
def akj:dg X 173 [a0,ba] h j ak av=XN X a0 ba h j ak av:=Zk
def aki:cW X 173 2=true:=Zk
def Rk(a:aL)(b c:D)(d:K ag)(e:Nat)(f g:bI):Prop:=
 y3 e a d λd e h=>aY a 116 [b] e h (λe g h=>xv h a g e λe g h=>kQ e a h λi=>ax (bq .neq i (.Z 2)) λi=>vl i 0 e h g a λg h j=>eZ i (bq .neq g (.Z 6)) h j λg h j=>dh (λg=>sM g 1 e h j a λh i j=>hr g c i j λi j k=>fJ g (dw a j .neq 9 false h i) j k λh i j=>dh (λg=>bB (λb c d=>MF b a c λc=>sP b 6 a c 7 λe=>mq b 4 a c 7 e λa b=>f (.tuple [b, .zT]) a d) λh=>aZ g (Q2 λb=>DD a i 7 d b λa b=>f (.tuple [b, .zF]) a j) (h (zA (cO [b,c]) 4 d 5 .zF 6 e 22 g) i j)) λa=>aZ g (a .zT) (a h)) λa=>aZ i (a g) (a .zF)) g
def XP:dg X 174 [a0,ba] h j ak av=Rk X a0 ba h j ak av:=Zk
def XO:cW X 174 2=true:=Zk
def XQ(a:aL)(b c:D)(d:K ag)(e:Nat)(f g:bI):Prop:=
 bB (λa b c=>ov a λa=>f a b c) λ_=>fF (λb c d e=>bB b λb=>bB (λc d e=>eQ c λh=>sN 58 e a d h g λ_ d e=>eQ c λh=>aY a 173 [h, .Z 3] d e (λd e h=>ax (r6 true 4 3 d) λd=>ax (e8 [.str [], .Z 0, .zF, .zF, .Z 0, .str [], .Z 0, .zF] [(2,3,d)]) λd=>Jh h a e λe h i=>ax (gj a h 8 e d) λd=>eQ c λh=>aY a 174 [h, .str [119,104,101,110]] d i (λd h i=>ud d i a h λd _ h i=>bB (λc d e=>cL (c 6) λh=>je h (λc d e=>fb (e+22) λe=>eQ c λh=>aY a 116 [h] d e (λd e g=>ax (r6 false 1 1 d) λd=>ax (dw a e .neq 9 true d (.str [59])) λd=>UR d (c 1) e λe h=>Pw d e h λe h=>F3 e c 0 h 0 a λh i=>F3 e c 0 i 1 a λi j=>kd e (bq .add i (.Z 1)) j λi j=>kd e (gv 7 h i) j λh i=>kd e (hv 1 h) i λh i=>kd e (aO a i h) i λh i=>kd e (dw a i .eql 9 true h (.str [108,101,116])) i λh i=>Pv d (λa=>dh (λb=>a b i) λa=>aZ e (a h) (a .zF)) i λe h=>dh (λd=>bB (λc d e=>MF c a d λa=>b c a e) λa=>aZ d (ou c λa=>f a h g) (a (aa c 90 d) h g)) λa=>aZ d (a .zT) (a e)) g) λb f=>fF (λb c d e=>hJ c 54 53 λg=>bB (λc d e=>mN (λa c d=>gU a 54 λe=>b (aa a 54 e) c d) c 52 54 λb f g=>F6 7 f g a d λf=>xv e a d f λd e f=>fb (e+8) λe=>fy 1 d a f λ_ g=>fy 2 d a f λh i=>cL (c 8) λj=>sR 0 j a f g λf=>cL (c 8) λg=>ax (hv 1 g) λg=>ax (aO a f h) λh=>gT h (some i) (nk a f g i λf=>gt c 5 8 λg h=>ax (d8 a f 8 h) λh=>ax (hi 1 [.str [], .Z 0, .zF, .zF, .Z 0, .str [], .Z 0, .zF] [(0,8,h)] e) λh=>DC a f e h.1 h.2 8 g λa e f=>b (zy c 13 d 5 a) e f)) λa=>aZ g (a (aa c 55 g) d e) (f (aa c 55 g) d e)) (zz c 52 h 53 b 54 (.Z 0)) d e) λb=>aZ d (eQ c λf=>aY a 174 [f, .str [110,111,116]] i h (λf h i=>hn f λ_ f=>sR 7 e a h f λf=>eQ c λh=>aY a 173 [h, .Z 1] f i (λf g h=>xv h a g f λf g h=>fb (g+8) λg=>fy 1 f a h λ_ i=>fy 2 f a h λj k=>sR 5 e a h i λh=>ax (hv 6 e) λi=>ax (aO a h j) λj=>gT j (some k) (nk a h i k λa=>b (zA c 8 e 10 d 37 d 11 f) a g)) g) g) (b (zz c 8 e 10 d 37 d) i h)) g) g) λb=>fF (λc d e f=>cL (d 7) λh=>bB (λb d e=>mN (λb d e=>eQ b λf=>aY a 174 [f, .str [44]] d e (λa d e=>hn a λ_ a=>c (aa b 7 a) d e) g) b 6 0 λc f h=>aY a 173 [h, .Z 1] d e (λd e g=>Q1 d g a e f λa d e=>c (aa b 6 a) d e) g) λa=>aZ h (a (aa d 14 h) e f) (b (aa d 14 h) e f)) (zy c 6 .aV 7 .zT) d e) (zy (cO [b,c]) 4 .aV 5 .aV) d e
def akl:dg X 175 [a0,ba] h j ak av=XQ X a0 ba h j ak av:=Zk
def akk:cW X 175 2=true:=Zk
def XR(a:aL)(b:D)(c:K ag)(d:Nat)(e f:bI):Prop:=
 iv a c d b λc d g=>ax (km [.aV, .aV, .Z 0, .cx] g) λh=>gw a d g h.1 h.2 λd g h=>ax (km [.aV, .aV, .Z 0, .cx] h) λi=>gw a g h i.1 i.2 λg h i=>ax (aO a h c) λj=>Jf a j 40 h i f λh i j=>bB (λb c d=>lh b 1 a c λg=>sN 61 d a c g f λc d g=>ax (r6 false 2 1 c) λc=>qb b λh=>sR 2 h a d c λc=>lh b 1 a c λd=>aY a 208 [d] c g (λc d g=>qb b λh=>sR 3 h a d c λc=>lh b 1 a c λd=>sN 59 g a c d f λ_ c d=>sP b 3 a c 4 λf=>mq b 2 a c 4 f λa b=>e b a d) f) λe=>aZ h (iz a (.func (.func 207) [] [c,g]) [] j i (λ_ i j=>ax (aO a i c) λk=>sN 44 j a i k f λ_ i j=>bB (λb c d=>lh b 1 a c λg=>sN 41 d a c g f λ_ a c=>e b a c) λe=>fF (λb c d g=>cL (c 7) λh=>bB (λc d e=>bB (λc d e=>lh c 1 a d λg=>aY a 174 [g, .str [44]] d e (λa d e=>hn a λ_ a=>b (aa c 7 a) d e) f) λb=>ov c λg=>iz a g [] d e (λ_ a d=>b c a d) f) λa=>aZ h (a (aa c 20 h) d g) (e (aa c 20 h) d g)) (zz (zA (cO [b]) 1 c 2 d 3 g 4 (.func (.func 207) [] [c,g])) 6 h 14 h 7 .zT) i j) f) (iz a (.func (.func 207) [] [c,g]) [] j i (λ_ a f=>e (zy (zA (cO [b]) 1 c 2 d 3 g 4 (.func (.func 207) [] [c,g])) 6 h 14 h) a f) f)
def akn:dg X 176 [a0] h j ak av=XR X a0 h j ak av:=Zk
def akm:cW X 176 1=true:=Zk
def η(a:aL)(b:D)(c:K ag)(d:Nat)(_ e:bI):Prop:=
 iv a c d b λb c d=>fy 2 b a c λ_ a=>Ja 21 a λa=>wQ e a c d
def ak3:dg X 206 [a0] h j ak av=η X a0 h j ak av:=Zk
def ak2:cW X 206 1=true:=Zk
def θ(a:aL)(b c:D)(d:K ag)(e:Nat)(f g:bI):Prop:=
 ax (aO a d b) λb=>aY a 173 [b, .Z 1] d e (λb d e=>xv e a d b λb d e=>fb (d+16) λg=>kQ c a e λh=>fy 1 b a e λ_ i=>ax (hi 1 [.str []] [(0,1,i)] (d+4)) λi=>mF a e (d+4) i.1 i.2 λe i=>fy 1 c a i λj k=>fy 2 b a i λb l=>ax (hi 1 [.Z 0] [(0,1,l)] (d+10)) λm=>mF a i (d+10) m.1 m.2 λd i=>hZ (kG a i g 1 h e) i g λe g h=>ax (hv 0 c) λi=>ax (aO a g j) λj=>gT j (some k) (ax (aO a g b) λb=>gT b (some l) (hZ (kG a g h 1 k d) g h λb d g=>nk a d i e λd=>sR 1 c a d b λa=>f (.tuple []) a g))) g
def ak5:dg X 207 [a0,ba] h j ak av=θ X a0 ba h j ak av:=Zk
def ak4:cW X 207 2=true:=Zk
def ι(a:aL)(b:D)(c:K ag)(d:Nat)(e f:bI):Prop:=
 aY a 232 [b] c d (λc d g=>aY a 174 [b, .str [45,62]] d g (λd g h=>ud d h a g λd g h i=>ax (hp .not d) λj=>bB (λb c d=>fb (d+9) λg=>jL b 4 2 a c λh i=>gt b 3 0 λb j=>aY a 208 [j] c g (λc f g=>ax (hi 2 [.cx, .cx] [(0,1,b),(1,1,c)] (d+5)) λb=>mF a f (d+5) b.1 b.2 λb c=>ax (e8 [.Z 0, .Z 0, .str [], .zF, .zF, .zF, .Z 0, .int .u64 0, .aV] [(0,1, .Z 22),(1,1,i),(8,1,b)]) λb=>xP a c (d+7) b λb c=>ax (aO a c h) λa=>gT a (some i) (e b c g)) f) λa=>aZ j (e c i h) (a (aa (zA (cO [b]) 2 .cx 3 c 4 g 5 d) 14 j) i h)) f) f
def ak7:dg X 208 [a0] h j ak av=ι X a0 h j ak av:=Zk
def ak6:cW X 208 1=true:=Zk
def ω(a:aL)(b:D)(c:K ag)(d:Nat)(e f:bI):Prop:=
 aY a 243 [b, .Z 0] c d (λc d g=>aY a 174 [b, .str [102,98,121]] d g (λd g h=>ud d h a g λd g h i=>ax (hp .not d) λj=>bB (λb c d=>kP b 3 0 a c λ_ _ g=>ax (bq .neq g (.Z 1)) λg=>oa g (b 3) c d λc d h=>BN g c d h 0 a λc d h=>eZ g (bq .neq c (.Z 4)) d h λc d h=>ke g c d h λc d h=>Bg c (b 3) d h λd h i=>F9 c d h i 8 a λd h i=>fJ c (gv 1 d (.Z 0)) h i λd h i=>fJ c (aO a h d) h i λd h i=>F9 c d h i 0 a λd h i=>fJ c (bq .neq d (.Z 1)) h i λd h i=>m4 g (λa=>dh (λb=>a b h i) λa=>aZ c (a .zT) (a d)) h i λc d h=>dh (λc=>bB (λb c d=>fb (d+9) λg=>jL b 4 2 a c λh i=>gt b 3 0 λb j=>aY a 232 [j] c g (λc f g=>ax (hi 2 [.cx, .cx] [(0,1,b),(1,1,c)] (d+5)) λb=>mF a f (d+5) b.1 b.2 λb c=>ax (e8 [.Z 0, .Z 0, .str [], .zF, .zF, .zF, .Z 0, .int .u64 0, .aV] [(0,1, .Z 21),(1,1,i),(8,1,b)]) λb=>xP a c (d+7) b λb c=>ax (aO a c h) λa=>gT a (some i) (e b c g)) f) λe=>aZ c (sP b 4 a d 7 λg=>aY a 206 [g] d h (λ_ a d=>e (aa b 39 c) a d) f) (e (aa b 39 c) d h)) λa=>aZ g (a c) (a .zF)) λa=>aZ j (e c i h) (a (aa (zA (cO [b]) 2 .cx 3 c 4 g 5 d) 14 j) i h)) f) f
def alC:dg X 232 [a0] h j ak av=ω X a0 h j ak av:=Zk
def alB:cW X 232 1=true:=Zk
def aaf(a:aL)(b c:D)(d:K ag)(e:Nat)(f g:bI):Prop:=
 ax (bq .eql c (.Z 5)) λh=>bB (λb c d=>gt b 0 1 λe h=>DE h λh=>aY a 243 [e,h] c d (λc d e=>bB (λa b c=>ov a λa=>f a b c) λ_=>fF (λb c d e=>bB b λb=>gt c 0 1 λh i=>aY a 252 [h,i] d e (λd e h=>hn d λd i=>ax (hp .not i) λj=>bB (λc d e=>gt c 6 5 λh i=>gt c 0 1 λj k=>DE k λk=>aY a 243 [j,k] d e (λd e g=>ax (hi 2 [.cx, .cx] [(0,1,i),(1,1,d)] g) λd=>gw a e g d.1 d.2 λd e g=>rQ h 8 a e d λa=>gt c 6 1 λd e=>oq e 2 b λb e=>aZ b (f d a g) (e (zy c 5 d 36 b) a g)) g) λa=>aZ j (ou c λa=>f a e h) (a (zz c 6 d 7 i 23 j) e h)) g) (aa b 5 c) d e) g) λi=>aZ h (aY a 251 [b] d e f g) (i (zy (cO [b,c]) 4 .cx 9 h) d e)
def alO:dg X 243 [a0,ba] h j ak av=aaf X a0 ba h j ak av:=Zk
def alN:cW X 243 2=true:=Zk
def aah(a:aL)(b:D)(c:K ag)(d:Nat)(e f:bI):Prop:=
 aY a 258 [b] c d (λc d g=>bB (λa b c=>cL (a 2) λa=>e a b c) λ_=>fF (λb c d g=>bB b λb=>eQ c λh=>aY a 174 [h, .str [60,60]] d g (λd g h=>ud d h a g λd g h i=>ax (hp .not d) λj=>bB (λc d g=>cL (c 6) λh=>ax (hp .not h) λh=>bB (λc d e=>eQ c λg=>aY a 173 [g, .Z 4] d e (λd e g=>xv g a e d λd e g=>fy 3 d a g λ_ h=>ax (bq .gtr h (.int .u64 63)) λh=>bB (λc d e=>gt c 4 5 λf g=>fy 2 g a d λ_ g=>jL c 7 3 a d λ_ h=>qb c λi=>ax (hi 1 [.cx] [(0,1,i)] e) λi=>gw a d e i.1 i.2 λd e i=>ax (e8 [.Z 0, .Z 0, .str [], .zF, .zF, .zF, .Z 0, .int .u64 0, .aV] [(0,1,f),(1,1,g),(7,1,h),(8,1,d)]) λd=>iv a e i d λa d e=>b (aa c 3 a) d e) λb=>aZ h (F7 a g 7 d 206 e f λ_ a e=>b (zy c 7 d 29 h) a e) (b (zy c 7 d 29 h) g e)) f) λa=>aZ h (qb c λa=>e a d g) (a (aa c 23 h) d g)) λb=>aZ j (eQ c λe=>aY a 174 [e, .str [62,62]] i h (λe f h=>hn e λe i=>ax (gj a f 7 g e) λa=>b (zy (zA c 4 (.Z 19) 5 g 6 d 16 j) 4 (.Z 20) 6 i) a h) f) (b (zA c 4 (.Z 19) 5 g 6 d 16 j) i h)) f) (zy (cO [b]) 2 .cx 3 c) d g) f
def alS:dg X 251 [a0] h j ak av=aah X a0 h j ak av:=Zk
def alR:cW X 251 1=true:=Zk
def aai(a:aL)(b c:D)(d:K ag)(e:Nat)(f g:bI):Prop:=
 ax (HY 5 1 (.ptr 9 0) c) λh=>ax (aO a d h) λh=>je h (λ_ a b=>f (.tuple [.cx, .zF]) a b) λi j=>fF (λb c d e=>hJ c 14 13 λh=>bB (λc d e=>mN (λa c d=>gU a 14 λe=>b (aa a 14 e) c d) c 12 14 λb h i=>F6 2 h i a d λh=>ax (km [.str [], .Z 0] e) λi=>gw a d e i.1 i.2 λd e i=>rP a e d h λe=>eQ c λh=>kQ d a e λj=>aY a 174 [h,j] e i (λe g h=>ud e h a g λe g h i=>bB b λb=>aZ e (fy 1 d a i λ_ b=>fy 2 g a i λ_ c=>ax (e8 [.Z 0, .Z 0, .str [], .zF, .zF, .zF, .Z 0, .int .u64 0, .aV] [(0,1,b),(1,1,c)]) λb=>iv a i h b λa b c=>f (.tuple [a, .zT]) b c) (b (zA c 7 d 8 g 9 e 25 e) i h)) g) λa=>aZ h (a (aa c 15 h) d e) (j (aa c 15 h) d e)) (aa (zA (cO [b,c]) 4 .cx 5 .zF 12 h 13 i) 14 (.Z 0)) d e
def alU:dg X 252 [a0,ba] h j ak av=aai X a0 ba h j ak av:=Zk
def alT:cW X 252 2=true:=Zk
def aaj(a:aL)(b:D)(c:K ag)(d:Nat)(e f:bI):Prop:=
 ax (e8 [.str [], .Z 0] [(0,1, .str [110,111,116]),(1,1, .Z 3)]) λg=>ax (e8 [.str [], .Z 0] [(0,1, .str [45]),(1,1, .Z 4)]) λh=>ax (e8 [.str [], .Z 0] [(0,1, .str [112,114,101]),(1,1, .Z 5)]) λi=>ax (e8 [.str [], .Z 0, .str [], .Z 0, .str [], .Z 0] [(0,2,g),(2,2,h),(4,2,i)]) λg=>bB (λb c d=>eQ b λg=>aY a 261 [g] c d (λc d g=>bB (λa b c=>cL (a 2) λa=>e a b c) λ_=>fF (λb c d g=>bB b λb=>eQ c λh=>aY a 174 [h, .str [119,104,101,110]] d g (λd g h=>ud d h a g λd g h i=>ax (hp .not d) λj=>bB (λc d e=>eQ c λg=>aY a 174 [g, .str [110,111,116]] d e (λd e g=>ud d g a e λd _ e g=>fb (e+11) λh=>jL c 8 2 a g λi j=>gt c 0 7 λk l=>ax (hi 1 [.cx] [(0,1,l)] (e+7)) λl=>mF a g (e+7) l.1 l.2 λg l=>aY a 173 [k, .Z 1] l h (λf h k=>ax (r6 false 1 1 f) λf=>ax (e8 [.Z 0, .Z 0, .str [], .zF, .zF, .zF, .Z 0, .int .u64 0, .aV] [(0,1, .Z 6),(1,1,j),(2,1,f),(3,1,d),(8,1,g)]) λf=>xP a h (e+9) f λe f=>ax (aO a f i) λa=>gT a (some j) (b (zy c 11 d 7 e) f k)) f) f) λa=>aZ j (cL (c 7) λa=>e a i h) (a (zz c 8 g 9 d 45 j) i h)) f) (aa b 7 c) d g) f) λh=>fF (λb c d g=>Ji c 16 3 λi=>bB (λc d g=>mN (λa c d=>gU a 16 λe=>b (aa a 16 e) c d) c 15 16 λb h i=>ax (uZ true 3 2 h i) λh=>ax (km [.str [], .Z 0] g) λi=>gw a d g i.1 i.2 λd g i=>rP a g d h λg=>eQ c λh=>kQ d a g λj=>aY a 174 [h,j] g i (λg h i=>ud g i a h λg h i j=>bB b λb=>aZ g (fb (i+10) λb=>fy 1 d a j λd g=>fy 2 h a j λh k=>eQ c λc=>aY a 258 [c] j b (λb c f=>ax (hi 1 [.cx] [(0,1,b)] (i+6)) λb=>mF a c (i+6) b.1 b.2 λb c=>ax (e8 [.Z 0, .Z 0, .str [], .zF, .zF, .zF, .Z 0, .int .u64 0, .aV] [(0,1,g),(1,1,k),(8,1,b)]) λb=>xP a c (i+8) b λb c=>ax (aO a c d) λd=>gT d (some g) (ax (aO a c h) λa=>gT a (some k) (e b c f))) f) (b (zA c 4 d 5 h 6 g 26 g) j i)) f) λa=>aZ i (a (aa c 17 i) d g) (h (aa c 17 i) d g)) (zz (cO [b]) 2 .cx 15 g 16 (.Z 0)) c d
def alW:dg X 258 [a0] h j ak av=aaj X a0 h j ak av:=Zk
def alV:cW X 258 1=true:=Zk
def Ab(a:aL)(b:D)(c:K ag)(d:Nat)(e f:bI):Prop:=
 aY a 116 [b] c d (λc d g=>xv g a d c λc d g=>fy 2 c a g λ_ h=>ax (e8 [.Z 0, .Z 0, .str [], .zF, .zF, .zF, .Z 0, .int .u64 0, .aV] [(1,1,h)]) λh=>iv a g d h λd g h=>h1 b 1 a g λ_ i=>DE i λi=>rQ b 1 a g i λg=>bB (λa b c=>ov a λa=>e a b c) λe=>kQ c a g λi=>oq i 5 e λe i=>aZ e (fb (h+16) λf=>ax (hv 4 c) λh=>it a g h λj=>fy 3 c a g λk l=>kB d 0 λm=>rO a g m 1 λg=>kB d 4 λm=>it a g h λh=>gT h (some j) (ax (aO a g k) λh=>gT h (some l) (ax (gj a g 3 m j) λg=>kB d 7 λh=>ax (aO a g k) λj=>gT j (some l) (nk a g h l λa=>i (zA (cO [b]) 2 .cx 3 c 4 d 29 e) a f)))) (Ga c a g 2 λj=>vl j 1 c g h a λg h k=>eZ j (dw a h .eql 9 true g (.str [116,114,117,101])) h k λg h k=>ke j g h k λg h k=>sM g 1 c h k a λh k l=>fJ g (dw a k .eql 9 true h (.str [102,97,108,115,101])) k l λh k l=>m4 j (λa=>dh (λb=>a b k l) λa=>aZ g (a .zT) (a h)) k l λg h k=>dh (λg=>bB i λi=>aZ g (ax (e8 [.zF, .zF, .Z 0] [(0,1, .zT),(2,1, .Z 1)]) λf=>kB d 0 λj=>rO a h j 1 λh=>kB d 4 λj=>ax (gj a h 3 j f) λf=>fy 1 c a f λ_ h=>ax (dw a f .eql 9 true h (.str [116,114,117,101])) λh=>bB i λi=>aZ h (kB d 7 λj=>ax (gj a f 1 j (.int .u64 1)) λa=>i (zy (zA (cO [b]) 2 .cx 3 c 4 d 29 e) 46 g 69 h) a k) (i (zy (zA (cO [b]) 2 .cx 3 c 4 d 29 e) 46 g 69 h) f k)) (kQ c a h λj=>oq j 1 i λi j=>aZ i (fb (k+10) λk=>fy 1 c a h λl m=>kB d 0 λn=>rO a h n 2 λh=>kB d 2 λn=>ax (aO a h l) λl=>gT l (some m) (nk a h n m λh=>Jf a b 40 h k f λh k l=>bB j λj=>aZ h (aY a 262 [b] l k (λf k l=>kB d 0 λm=>rO a k m 25 λk=>rQ d 8 a k f λa=>j (zA (zA (cO [b]) 2 .cx 3 c 4 d 29 e) 46 g 73 i 6 h 90 h) a l) f) (j (zA (zA (cO [b]) 2 .cx 3 c 4 d 29 e) 46 g 73 i 6 h 90 h) l k))) (kQ c a h λl=>oq l 3 j λj l=>aZ j (fb (k+10) λk=>ax (hv 4 c) λm=>it a h m λn=>kB d 0 λo=>rO a h o 26 λh=>kB d 4 λo=>it a h m λm=>gT m (some n) (ax (gj a h 3 o n) λh=>sN 40 k a h b f λ_ h k=>aY a 208 [b] h k (λh k m=>ax (hi 1 [.cx] [(0,1,h)] m) λh=>gw a k m h.1 h.2 λh k m=>rQ d 8 a k h λh=>sN 41 m a h b f λ_ a f=>l (zz (zA (cO [b]) 2 .cx 3 c 4 d 29 e) 46 g 73 i 99 j) a f) f)) (Ga c a h 6 λm=>vl m 1 c h k a λh k n=>eZ m (dw a k .eql 9 true h (.str [40])) k n λh k n=>dh (λh=>bB l λl=>aZ h (aY a 208 [b] k n (λk m n=>sN 41 n a m b f λ_ a f=>l (aa (zA (zA (cO [b]) 2 .cx 3 c 4 d 29 e) 46 g 73 i 99 j 123 h) 4 k) a f) f) (Ga c a k 2 λm=>vl m 1 c k n a λk n o=>eZ m (dw a n .eql 9 true k (.str [105,102])) n o λk n o=>dh (λk=>bB l λl=>aZ k (kB d 0 λm=>rO a n m 23 λm=>QY o d a m b f λm n o p q=>gT q (some m) (hZ (kG a p n 1 m o) p n λm n o=>rQ d 8 a n m λm=>ax (hi 1 [.str []] [(0,1, .str [116,104,101,110])] o) λn=>gw a m o n.1 n.2 λm n o=>aY a 172 [b,m] n o (λ_ m n=>QY n d a m b f λm n o p q=>gT q (some m) (hZ (kG a p n 1 m o) p n λm n o=>rQ d 8 a n m λm=>ax (hi 1 [.str []] [(0,1, .str [101,108,115,101])] o) λn=>gw a m o n.1 n.2 λm n o=>aY a 172 [b,m] n o (λ_ m n=>QY n d a m b f λf m n o p=>gT p (some f) (hZ (kG a o m 1 f n) o m λf m n=>rQ d 8 a m f λa=>l (aa (zA (zA (cO [b]) 2 .cx 3 c 4 d 29 e) 46 g 73 i 99 j 123 h) 137 k) a n)) f)) f)) (Ga c a n 2 λm=>vl m 1 c n o a λn o p=>eZ m (dw a o .eql 9 true n (.str [109,101,114,103,101])) o p λn o p=>dh (λm=>bB l λl=>aZ m (aY a 173 [b, .Z 1] o p (λn o p=>ax (r6 false 1 1 n) λn=>kB d 0 λq=>rO a o q 24 λo=>rQ d 2 a o n λn=>aY a 261 [b] n p (λn o p=>aY a 261 [b] o p (λf o p=>ax (hi 2 [.cx, .cx] [(0,1,n),(1,1,f)] p) λf=>gw a o p f.1 f.2 λf n o=>rQ d 8 a n f λa=>l (zy (zA (zA (cO [b]) 2 .cx 3 c 4 d 29 e) 46 g 73 i 99 j 123 h) 137 k 188 m) a o) f) f) f) (h1 b 1 a o λ_ n=>MM n λn=>rQ b 1 a o n λn=>F7 a n 7 c 206 p f λ_ a f=>l (zy (zA (zA (cO [b]) 2 .cx 3 c 4 d 29 e) 46 g 73 i 99 j 123 h) 137 k 188 m) a f)) λa=>aZ m (a n) (a .zF))) λa=>aZ m (a k) (a .zF))) λa=>aZ m (a h) (a .zF))))) λa=>aZ j (a g) (a .zF))) f
def BZ:dg X 261 [a0] h j ak av=Ab X a0 h j ak av:=Zk
def BY:cW X 261 1=true:=Zk
def aak(a:aL)(b:D)(c:K ag)(d:Nat)(e f:bI):Prop:=
 Jf a b 41 c d f λc d g=>bB (λb c d=>eQ b λg=>aY a 208 [g] c d (λc d g=>ax (hi 1 [.cx] [(0,1,c)] g) λc=>gw a d g c.1 c.2 λc d g=>bB (λa b c=>cL (a 2) λa=>e a b c) λ_=>fF (λb c d g=>bB b λb=>eQ c λh=>Jf a h 44 d g f λd g h=>ax (hp .not d) λi=>bB (λc d e=>gt c 5 0 λg h=>aY a 208 [h] d e (λd e f=>ax (hi 1 [.cx] [(0,1,d)] f) λd=>DC a e f d.1 d.2 1 g λa d e=>b (aa c 5 a) d e) f) λb=>aZ i (eQ c λb=>sN 41 g a h b f λ_ a b=>ou c λc=>e c a b) (b (zy c 7 d 23 i) h g)) (aa b 5 c) d g) f) λa=>aZ c (e .aV g d) (a (zz (cO [b]) 2 .aV 4 c 13 c) g d)
def alY:dg X 262 [a0] h j ak av=aak X a0 h j ak av:=Zk
def alX:cW X 262 1=true:=Zk
end
end Go.Proofs.YtpfajohmofnkfaaGreatDoor

namespace Go.Proofs.YtpfajohmofnkfaaGreatDoor
open Go.bd Go.aR
noncomputable section
def cd(t:Tok):List D:=[.Z t.kind, .str t.text, .Z t.at_, .int .u64 t.n, .bool t.ty.b, .bool t.ty.s, .Z t.ty.w]
def p0:Nat:=3
def awl(f:Nat):Bool:=o5 f [16,30,50,55,240,125,180,223]
structure du(X:cb):Prop where
 none:∀f k,awl f=false->X.O f k=none
set_option maxRecDepth 100000 in
def zx{X:cb}(O:du X){f:Nat}{a:List D}{S:K ag}{n:Nat}{u v:bI}(c:cW X f a.length=true)(h:dg X f a S n u v)(b:awl f=false:=by rfl):aY X f a S n u v:=c0 c (O.none _ _ b) h
structure aR(X:cb)(h:K ag)(aK bP:Nat)(aT:List Tok)(i:Nat):Prop where
 at_:∃c ao,Y X h aK=some (.cells c 2 .own)/\c.get 0=some ao/\c.get 1=some (.Z (i:Int))/\dD X h (λe=>e=bP) bP ao 7 (aT.map cd)
 ne:aK≠bP
def aR.ab{X:cb}{h T:K ag}{aK bP:Nat}{aT:List Tok}{i:Nat}(a:aR X h aK bP aT i)(bR:Y X T aK=Y X h aK)(cq:Y X T bP=Y X h bP):aR X T aK bP aT i:=by
 obtain⟨c,ao,I,J,am,aB⟩:=a.at_
 exact⟨⟨c,ao,by rw[bR];exact I,J,am,aB.ab λe z=>by subst z;exact cq⟩,a.ne⟩
def kf{C:aL}{h:K ag}{b n U:Nat}{c:K D}{st:ox}{v:D}(a:Y C h b=some (.cells c n st))(bD:c.get U=some v):aO C h (.ptr b U)=some v:=by rw[co,a];exact bD
section
variable{X:cb}{h T:K ag}{j an aK bP:Nat}{aT:List Tok}{i:Nat}
def sx(aw:du X)(aE:(o X).a2<=j)(ay:aR X h aK bP aT i)(iQ:aK<j)(jT:bP<j){t:Tok}(a6:aT[i]? =some t):
 aY X 116 [.ptr aK 0] h j (λac T an=>ac= .agg (cd t)/\bo X h j T an) (λ_ _ _=>False):=by
 refine zx aw (aja X) ?_
 rw[ajb]
 unfold Xf
 obtain⟨c,ao,I,J,am,aB⟩:=ay.at_
 have sn:=kf I J
 have bR:=kf I am
 have aN:i<(aT.map cd).length:=by rw[Zn];exact(Zc.1 a6).1
 have dS:=aB.f3 i aN
 have e3:d8 X (bn X h j (zu [.Z 0, .str [], .Z 0, .int .u64 0, .zF, .zF, .Z 0] 7)) 7 (.ptr bP (i*7))=some (.agg (cd t)):=by
  have:=(aB.ab (T:=bn X h j (zu [.Z 0, .str [], .Z 0, .int .u64 0, .zF, .zF, .Z 0] 7)) (λe z=>by subst z;exact aI aE Zo)).row Zd (i:=i) (r:=cd t) (by rw[Zy,a6];rfl)
  exact this
 refine gg @sn @bR @dS @e3 cd.eq_1 ⟨?_⟩
 exact⟨rfl,dM⟩
def t6:List D:=[.Z 0, .str [], .Z 0, .int .u64 0, .zF, .zF, .Z 0]
def aR.on(ay:aR X h aK bP aT i){W:Nat}{c:K D}(I:Y X T aK=some (.cells c 2 .own))(aS:∀d3 st,Y X h aK=some (.cells d3 2 st)->c=d3.set 1 (some (.Z (W:Int))))(cq:Y X T bP=Y X h bP):aR X T aK bP aT W:=by
 obtain⟨d3,ao,ba,cj,a3,a4⟩:=ay.at_
 have:=aS d3 _ ba
 subst this
 refine⟨⟨_,ao,I, ?_, ?_,a4.ab λe z=>by subst z;exact cq⟩,ay.ne⟩
 ·rw[K.kI,Zg Zd];exact cj
 ·rw[K.kI,Zu rfl]
def J9(aw:du X)(aE:(o X).a2<=j)(t:Tok)(av:bI)(a:∀T an,bo X h j T an->av (.iface 26 (.agg [.Z 21, .Z t.at_])) T an):
 aY X 206 [.agg (cd t)] h j (λ_ _ _=>False) av:=by
 refine zx aw (ak2 X) ?_
 rw[ak3]
 unfold η cd
 refine cK ⟨?_⟩
 exact⟨a _ _ dM⟩
def ahV(aw:du X)(aE:(o X).a2<=j)(ay:aR X h aK bP aT i)(h9:(o X).a2<=aK)(iQ:aK<j)(jT:bP<j)(bp:aT.length<=300000){t:Tok}(a6:aT[i]? =some t){s:bi}(aF:g9 t s=true):
 aY X 174 [.ptr aK 0, .str s] h j (λac T an=>ac= .tuple [.agg (cd t), .zT]/\aR X T aK bP aT (i+1)/\ca X [aK] h j T an) (λ_ _ _=>False):=by
 refine zx aw (XO X) ?_
 rw[XP]
 unfold Rk
 refine pq ?_
 have lK:=(Zc.1 a6).1
 have bN:bo X h j (bn X h j (zu t6 7)) (j+1):=bo.fresh aE _
 have en:aR X (bn X h j (zu t6 7)) aK bP aT i:=ay.ab (bN.ab _ iQ) (bN.ab _ jT)
 refine(sx aw Zo en Zo Zo a6).mono ?_ (λ_ _ _ a=>a)
 rintro ac aM a1 ⟨rfl,bJ⟩
 have gq:=bJ.le
 have J:Y X aM j=zu t6 7:=by rw[bJ.ab _ Zo];exact bg aE
 have gm:ca X [aK] h j aM a1:=ca.of ((bo.fresh aE _).trans bJ)
 have dB:aR X aM aK bP aT i:=en.ab (bJ.ab _ Zo) (bJ.ab _ Zo)
 obtain⟨c,ao,ba,cj,a3,a4⟩:=dB.at_
 have aD:=gm.ab
 simp only[g9,Zp,zi,Zh]at aF
 obtain⟨pE,rfl⟩:=aF
 have bR:=kf ba a3
 have bF:=zv i
 have eU:decide (t.text≠t.text)=false:=by simp
 unfold t6 at J
 have fin:∀(s0:K ag) (an:Nat),Y X s0 aK=some (.cells (dN c 1 [.Z ((i+1:Nat):Int)]) 2 .own)->ca X [aK] h j s0 an->Y X s0 bP=Y X aM bP->aR X s0 aK bP aT (i+1)/\ca X [aK] h j s0 an:=λs0 an I J am=>
  ⟨dB.on I (λd3 st a=>by rw[ba]at a;cases a;exact rM ..) am,J⟩
 have c8:=ay.ne
 rcases pE with i6|i6
 ·have cX:decide (t.kind≠2)=false:=by simp[i6]
  refine eF cd.eq_1 @cX @eU @bR @bF @ba @J ⟨?_⟩
  refine⟨rfl,fin _ _ ?_ ?_ ?_⟩
  ·simp(disch:=omega) only[aI,bg];rfl
  ·exact⟨Zo,λb aj bZ=>by have:=aD b aj bZ;simp only[Zr,ZK,YS,Yz,ZG,Ya]at bZ;simp(disch:=omega) only[aI];exact this⟩
  ·simp(disch:=omega) only[aI]
 ·have cX:decide (t.kind≠2)=true:=by simp[i6]
  have cF:decide (t.kind≠6)=false:=by simp[i6]
  refine eF cd.eq_1 @cX @cF @eU @bR @bF (Za @ba @J) ⟨?_⟩
  refine⟨rfl,fin _ _ ?_ ?_ ?_⟩
  ·simp(disch:=omega) only[aI,bg];rfl
  ·exact⟨Zo,λb aj bZ=>by have:=aD b aj bZ;simp only[Zr,ZK,YS,Yz,ZG,Ya]at bZ;simp(disch:=omega) only[aI];exact this⟩
  ·simp(disch:=omega) only[aI]
def ahU(aw:du X)(aE:(o X).a2<=j)(ay:aR X h aK bP aT i)(h9:(o X).a2<=aK)(iQ:aK<j)(jT:bP<j){t:Tok}(a6:aT[i]? =some t){s:bi}(aF:g9 t s=false):
 aY X 174 [.ptr aK 0, .str s] h j (λac T an=>ac= .tuple [.agg t6, .zF]/\aR X T aK bP aT i/\ca X [aK] h j T an) (λ_ _ _=>False):=by
 refine zx aw (XO X) ?_
 rw[XP]
 unfold Rk
 refine pq ?_
 have bN:bo X h j (bn X h j (zu t6 7)) (j+1):=bo.fresh aE _
 have en:aR X (bn X h j (zu t6 7)) aK bP aT i:=ay.ab (bN.ab _ iQ) (bN.ab _ jT)
 refine(sx aw Zo en Zo Zo a6).mono ?_ (λ_ _ _ a=>a)
 rintro ac aM a1 ⟨rfl,bJ⟩
 have gq:=bJ.le
 have J:Y X aM j=zu t6 7:=by rw[bJ.ab _ Zo];exact bg aE
 have gm:ca X [aK] h j aM a1:=ca.of ((bo.fresh aE _).trans bJ)
 have dB:aR X aM aK bP aT i:=en.ab (bJ.ab _ Zo) (bJ.ab _ Zo)
 have aD:=gm.ab
 unfold t6 at J
 have fin:∀(s0:K ag) (an:Nat),Y X s0 aK=Y X aM aK->ca X [aK] h j s0 an->Y X s0 bP=Y X aM bP->aR X s0 aK bP aT i/\ca X [aK] h j s0 an:=λs0 an I J am=>
  ⟨dB.ab I am,J⟩
 simp only[g9,Bool.and_eq_false_iff,Bool.or_eq_false_iff,Zb]at aF
 by_cases i6:t.kind=2
 ·have aF:t.text≠s:=by rcases aF with a|a;exact absurd i6 a.1;exact a
  have cX:decide (t.kind≠2)=false:=by simp[i6]
  have eU:decide (t.text≠s)=true:=by simpa using aF
  refine gx cd.eq_1 @cX @eU @J ⟨?_⟩
  refine⟨rfl,fin _ _ ?_ ?_ ?_⟩
  ·simp(disch:=omega) only[aI]
  ·exact⟨Zo,λb aj bZ=>by have:=aD b aj bZ;simp only[Zr,ZK,YS,Yz,ZG,Ya]at bZ;simp(disch:=omega) only[aI];exact this⟩
  ·simp(disch:=omega) only[aI]
 ·have cX:decide (t.kind≠2)=true:=by simp[i6]
  by_cases oQ:t.kind=6
  ·have aF:t.text≠s:=by rcases aF with a|a;exact absurd oQ a.2;exact a
   have cF:decide (t.kind≠6)=false:=by simp[oQ]
   have eU:decide (t.text≠s)=true:=by simpa using aF
   refine gg cd.eq_1 @cX @cF @eU @J ⟨?_⟩
   refine⟨rfl,fin _ _ ?_ ?_ ?_⟩
   ·simp(disch:=omega) only[aI]
   ·exact⟨Zo,λb aj bZ=>by have:=aD b aj bZ;simp only[Zr,ZK,YS,Yz,ZG,Ya]at bZ;simp(disch:=omega) only[aI];exact this⟩
   ·simp(disch:=omega) only[aI]
  ·have cF:decide (t.kind≠6)=true:=by simp[oQ]
   refine gx cd.eq_1 @cX @cF @J ⟨?_⟩
   refine⟨rfl,fin _ _ ?_ ?_ ?_⟩
   ·simp(disch:=omega) only[aI]
   ·exact⟨Zo,λb aj bZ=>by have:=aD b aj bZ;simp only[Zr,ZK,YS,Yz,ZG,Ya]at bZ;simp(disch:=omega) only[aI];exact this⟩
   ·simp(disch:=omega) only[aI]
def Df(aw:du X)(aE:(o X).a2<=j)(ay:aR X h aK bP aT i)(h9:(o X).a2<=aK)(iQ:aK<j)(jT:bP<j)(bp:aT.length<=300000){t:Tok}(a6:aT[i]? =some t)(q:Int):
 aY X 173 [.ptr aK 0, .Z q] h j (λac T an=>t.kind=q/\ac= .agg (cd t)/\aR X T aK bP aT (i+1)/\ca X [aK] h j T an)
  (λac T an=>t.kind≠q/\ac= .iface 26 (.agg [.Z 21, .Z t.at_])/\ca X [aK] h j T an):=by
 refine zx aw (aki X) ?_
 rw[akj]
 unfold XN
 refine pq ?_
 have lK:=(Zc.1 a6).1
 have bN:bo X h j (bn X h j (zu t6 7)) (j+1):=bo.fresh aE _
 have en:aR X (bn X h j (zu t6 7)) aK bP aT i:=ay.ab (bN.ab _ iQ) (bN.ab _ jT)
 refine(sx aw Zo en Zo Zo a6).Zm ?_
 rintro ac aM a1 ⟨rfl,bJ⟩
 have gq:=bJ.le
 have J:Y X aM j=zu t6 7:=by rw[bJ.ab _ Zo];exact bg aE
 have gm:ca X [aK] h j aM a1:=ca.of ((bo.fresh aE _).trans bJ)
 have dB:aR X aM aK bP aT i:=en.ab (bJ.ab _ Zo) (bJ.ab _ Zo)
 obtain⟨c,ao,ba,cj,a3,a4⟩:=dB.at_
 have aD:=gm.ab
 have bR:=kf ba a3
 have bF:=zv i
 unfold t6 at J
 have c8:=ay.ne
 by_cases yn:t.kind=q
 ·have cX:decide (t.kind≠q)=false:=by simp[yn]
  refine iM cd.eq_1 @cX @bR @bF @ba @J ⟨?_⟩
  refine⟨yn,rfl,dB.on (c:=dN c 1 [.Z ((i+1:Nat):Int)]) ?_ (λd3 st a=>by rw[ba]at a;cases a;exact rM ..) ?_, ?_⟩
  ·simp(disch:=omega) only[aI,bg];rfl
  ·simp(disch:=omega) only[aI]
  ·exact⟨Zo,λb aj bZ=>by have:=aD b aj bZ;simp only[Zr,ZK,YS,Yz,ZG,Ya]at bZ;simp(disch:=omega) only[aI];exact this⟩
 ·have cX:decide (t.kind≠q)=true:=by simp[yn]
  refine et cd.eq_1 @cX @J ⟨?_⟩
  refine(J9 aw Zo t _ ?_).mono (λ_ _ _ a=>a.elim) (λ_ _ _ a=>a)
  intro T an bT
  have KX:=bT.le
  refine⟨yn,rfl,Zo,λb aj bZ=> ?_⟩
  have:=aD b aj bZ
  simp only[Zr,ZK,YS,Yz,ZG,Ya]at bZ
  rw[bT.ab b Zo]
  simp(disch:=omega) only[aI];exact this
end
section
variable{X:cb}{h T:K ag}{j an aK bP:Nat}{aT:List Tok}{i:Nat}
def hc:Tok:=⟨0,[],0,0,dH⟩
def sG:List bi->Tok->List Tok->ge Tok
 |[],x,k=>ok x k
 |s::nL,_,k=>andThen (eC s k) λe k=>sG nL e k
def fN{aT:List Tok}{i:Nat}{x:Tok}{k:List Tok}(a:aT.drop i=x::k):aT[i]? =some x/\aT.drop (i+1)=k:=by
 constructor
 ·have:=congrArg (λk=>k[0]?) a
  simpa using this
 ·rw[<-zl,a];rfl
def ih(nL:List bi):List (List D):=nL.map λs=>[.str s]
def aih(aw:du X)(aE:(o X).a2<=j)(ay:aR X h aK bP aT i)(h9:(o X).a2<=aK)(iQ:aK<j)(jT:bP<j)(bp:aT.length<=300000){aW:D}{cp:Nat}{nL:List bi}(Hj:cp<j)(Lg:cp≠aK)(aF:dD X h (λe=>e=cp) cp aW 1 (ih nL))
 {r:Except Int (Tok×List Tok)}(V:sG nL hc (aT.drop i)=some r):
 aY X 172 [.ptr aK 0,aW] h j (λac T an=>∃x cD,r= .ok (x,aT.drop cD)/\ac= .agg (cd x)/\aR X T aK bP aT cD/\ca X [aK] h j T an)
  (λac T an=>∃F,r= .error F/\ac= .iface 26 (.agg [.Z 21, .Z F])/\ca X [aK] h j T an):=by
 refine zx aw (akg X) ?_
 rw[akh]
 unfold XM
 have fI:=aF.len
 have c8:=ay.ne
 have wg:=aF.many
 simp only[ih,Zn]at wg
 refine pq ?_
 refine pq ?_
 have Ko:bo X h j (bn X (bn X h j (zu (cd hc) 7)) (j+1) (zu (cd hc) 7)) (j+1+1):=dM
 have ml:Y X (bn X (bn X h j (zu (cd hc) 7)) (j+1) (zu (cd hc) 7)) j=zu (cd hc) 7:=by simp(disch:=omega) only[aI,bg]
 have cG:Y X (bn X (bn X h j (zu (cd hc) 7)) (j+1) (zu (cd hc) 7)) (j+1)=zu (cd hc) 7:=bg Zo
 refine r7 @fI ⟨?_⟩
 refine kt (λH T n=>∃x cD,r= .ok (x,aT.drop cD)/\H.g 5=some (.ptr (j+1) 0)/\H.g 4=some (.ptr j 0)/\j+1<n/\Y X T (j+1)=zu (cd x) 7/\Y X T j=zu (cd hc) 7/\aR X T aK bP aT cD/\ca X [aK] h j T n) (λW bK=> ?_) ?_
 ·refine fK (λm H T n=>∃q cD x,m=nL.length-q/\q<=nL.length/\H.g 0=some (.ptr aK 0)/\H.g 9=some aW/\H.g 10=some (.Z (nL.length:Int))/\H.g 11=some (.Z (q:Int))/\H.g 5=some (.ptr (j+1) 0)/\H.g 4=some (.ptr j 0)/\j+1<n
   /\Y X T (j+1)=zu (cd x) 7/\Y X T j=zu (cd hc) 7/\aR X T aK bP aT cD/\ca X [aK] h j T n/\sG (nL.drop q) x (aT.drop cD)=some r)
   nL.length ⟨0,i,hc,Zo,Zo, ?_, ?_, ?_, ?_, ?_, ?_,Zo,cG,ml,ay.ab (Ko.ab _ iQ) (Ko.ab _ jT),ca.of Ko,V⟩ ?_
  ·exact bw
  ·exact bw
  ·refine AB ⟨?_⟩
   simp[ih]
  ·refine AB ⟨?_⟩
   rfl
  ·exact bw
  ·exact bw
  rintro m H aM n ⟨q,cD,x,rfl,aD,t0,t9,oi,pc,t5,t4,c2,b3,h6,dB,gm,bt⟩
  refine cT @oi @pc ⟨?_⟩
  refine GG (λCD=> ?_) (λCD=> ?_)
  ·have CD:q<nL.length:=Zo
   have ko:nL.drop q=nL[q]::nL.drop (q+1):=Zv CD
   rw[ko]at bt
   have dS:=aF.f3 q (by simp[ih];exact CD)
   have aeY:aO X aM (.ptr cp (q*1))=some (.str nL[q]):=by
    have:=(aF.ab (T:=aM) λe z=>by subst z;exact gm.ab _ Hj (by simp;exact Lg)).cell q [.str nL[q]] 0 (.str nL[q]) (by simp[ih]) rfl
    rwa[ZW]at this
   refine gg @t9 @pc @dS @aeY @t0 ⟨?_⟩
   generalize nL[q]=s at bt aeY
   cases aH:aT.drop cD with
   |nil=>rw[aH]at bt;simp[sG,eC,andThen]at bt
   |cons e k=>
    obtain⟨z,az⟩:=fN aH
    rw[aH]at bt
    simp only[sG,eC]at bt
    cases E0:g9 e s with
    |true=>
     rw[E0]at bt
     simp only[ZC,andThen,ok]at bt
     refine(ahV aw (zq gm.le) dB h9 Zo Zo bp z E0).Zm ?_
     rintro ac aX bf ⟨rfl,gI,dY⟩
     have ip:=dY.le
     have SI:Y X aX (j+1)=zu (cd x) 7:=by rw[dY.ab _ Zo (by simp;omega)];exact b3
     have aqn:Y X aX j=zu (cd hc) 7:=by rw[dY.ab _ Zo (by simp;omega)];exact h6
     refine et @t5 @SI @pc ⟨?_⟩
     have bF:=zv q
     refine ci @bF ⟨?_⟩
     refine⟨_, ?_,q+1,cD+1,e,rfl,Zo,a7 t0,a7 t9,a7 oi,bw,a7 t5,a7 t4,Zo,bg Zo,by simp(disch:=omega) only[aI];exact aqn,gI.ab (zw) (zw), ?_, ?_⟩
     ·omega
     ·have mc:=(gm.trans dY).ab
      exact⟨zq gm.le,λb aj bZ=>by rw[<-mc b aj bZ];exact zw⟩
     ·rw[az];exact bt
    |false=>
     rw[E0]at bt
     simp only[Zw,ZA,andThen,bad,Zf]at bt
     subst bt
     refine(ahU aw (zq gm.le) dB h9 Zo Zo z E0).Zm ?_
     rintro ac aX bf ⟨rfl,gI,dY⟩
     have ip:=dY.le
     have SI:Y X aX (j+1)=zu (cd x) 7:=by rw[dY.ab _ Zo (by simp;omega)];exact b3
     refine et @t5 @SI @t0 ⟨?_⟩
     refine(sx aw (zq gm.le) (gI.ab (zw) (zw)) Zo Zo z).Zm ?_
     rintro ac bC da ⟨rfl,dv⟩
     have jC:=dv.le
     refine(J9 aw (zq gm.le) e _ ?_).mono (λ_ _ _ a=>a.elim) (λ_ _ _ a=>a)
     intro bW b4 dJ
     have ib:=dJ.le
     have mc:=(gm.trans dY).ab
     refine⟨_,rfl,rfl,zq gm.le,λb aj bZ=> ?_⟩
     rw[dJ.ab b Zo,dv.ab b Zo, <-mc b aj bZ]
     simp(disch:=omega) only[aI]
  ·have yn:q=nL.length:=Zo
   subst yn
   rw[List.drop_length]at bt
   simp only[sG,ok,Zf]at bt
   subst bt
   refine cK ⟨?_⟩
   exact bK _ _ _ ⟨x,cD,rfl,a7 t5,a7 t4,c2,b3,h6,dB,gm⟩
 ·rintro H aM n ⟨x,cD,af,t5,t4,c2,b3,h6,dB,gm⟩
  unfold cd at b3
  unfold cd hc dH at h6
  refine gg @t5 @t4 @b3 @h6 (bO b3) ⟨?_⟩
  refine⟨x,cD,af,rfl,dB.ab (zw) (zw), ?_⟩
  exact⟨zq gm.le,λb aj bZ=>by rw[<-gm.ab b aj bZ];exact zw⟩
end
structure iJ(X:cb)(h:K ag)(j aK bP:Nat)(aT:List Tok)(i:Nat):Prop where
 a2:(o X).a2<=j
 bM:(o X).a2<=aK
 ht:aK<j
 g8:bP<j
 many:aT.length<=300000
 par:aR X h aK bP aT i
def iJ.go{X:cb}{h T:K ag}{j an aK bP i cD:Nat}{aT:List Tok}(a:iJ X h j aK bP aT i)(ay:aR X T aK bP aT cD)(aE:j<=an):iJ X T an aK bP aT cD:=
 ⟨ZB a.a2 aE,a.bM,ZP a.ht aE,ZP a.g8 aE,a.many,ay⟩
def cQ(F b:Nat):Nat->Prop:=λe=>F<=e/\e<b
def pw(q F:Int):D:= .iface 26 (.agg [.Z q, .Z F])
def j0(X:cb)(aK bP:Nat)(aT:List Tok)(h:K ag)(j:Nat)(r:Except Int (be×List Tok)):bI:=λac T an=>
 ∃E cD,r= .ok (E,aT.drop cD)/\cy X T (cQ j an) E ac/\aR X T aK bP aT cD/\ca X [aK] h j T an
def iY{α:Type}(X:cb)(aK:Nat)(h:K ag)(j:Nat)(r:Except Int α):bI:=λac T an=>
 ∃F,r= .error F/\ac=pw 21 F/\ca X [aK] h j T an
def xC(X:cb):Prop:=9<X.a2/\∀h q,q<5->∃b aW,aO X h (.ptr 9 q)=some aW/\dD X h (λe=>e<X.a2) b aW 2 ((ar q).map λU=>[.str U.1, .Z U.2])
section
variable{X:cb}{h T aP aM:K ag}{j an aG a1 aK bP:Nat}{aT:List Tok}{i:Nat}
def iY.of{α eD:Type}{c6:K ag}{agC:Nat}{r:Except Int α}{gb:Except Int eD}{ac:D}(a:iY X aK aP aG r ac T an)(gm:ca X [aK] c6 agC aP aG)(V:∀F,r= .error F->gb= .error F):iY X aK c6 agC gb ac T an:=by
 obtain⟨F,I,J,am⟩:=a
 exact⟨F,V F I,J,gm.trans am⟩
def cy.fr{F b:Nat}{E:be}{v:D}(a:cy X h (cQ F b) E v)(gm:ca X [aK] h aG T an)(aj:b<=aG)(ay:aK<F){fV dO:Nat}(I:fV<=F)(J:b<=dO):cy X T (cQ fV dO) E v:=
 cy.lift (λe z=>⟨ZB I z.1,ZP z.2 J⟩) _ _ (cy.ab (λe z=>gm.ab e (zq z.2) (by simp;have:=z.1;omega)) _ _ a)
def cy.ex{F b:Nat}{E:be}{v:D}(a:cy X h (cQ F b) E v)(q:∀e,F<=e->e<b->Y X T e=Y X h e){fV dO:Nat}(I:fV<=F)(J:b<=dO):cy X T (cQ fV dO) E v:=
 cy.lift (λe z=>⟨ZB I z.1,ZP z.2 J⟩) _ _ (cy.ab (λe z=>q e z.1 z.2) _ _ a)
def rJ{eD:Type}{s:bi}{k:List Tok}{f:Option Tok->List Tok->ge eD}{r:Except Int (eD×List Tok)}(a:ir s k f=some r):∃x bV,k=x::bV/\((g9 x s=true/\f (some x) bV=some r)\/(g9 x s=false/\f none k=some r)):=by
 unfold ir mm at a
 cases k with
 |nil=>cases a
 |cons x bV=>
  refine⟨x,bV,rfl, ?_⟩
  simp only[]at a
  cases aF:g9 x s with
  |true=>rw[aF]at a;exact .inl ⟨rfl,a⟩
  |false=>rw[aF]at a;exact .inr ⟨rfl,a⟩
def gu{α eD:Type}{x:ge α}{f:α->List Tok->ge eD}{r:Except Int (eD×List Tok)}(a:andThen x f=some r):(∃F,x=some (.error F)/\r= .error F)\/∃F k,x=some (.ok (F,k))/\f F k=some r:=by
 unfold andThen at a
 split at a
 ·cases a
 ·injection a with a;exact .inl ⟨_,rfl,a.symm⟩
 ·exact .inr ⟨_,_,rfl,a⟩
def oj(aw:du X)(ay:iJ X h j aK bP aT i){x:Tok}{k:List Tok}(aH:aT.drop i=x::k)(s:bi):
 aY X 174 [.ptr aK 0, .str s] h j (λac T an=>ac= .tuple [.agg (cd (if g9 x s then x else hc)), .bool (g9 x s)]/\aR X T aK bP aT (if g9 x s then i+1 else i)/\ca X [aK] h j T an) (λ_ _ _=>False):=by
 obtain⟨I,J⟩:=fN aH
 cases aF:g9 x s with
 |true=>simp only[ZC];exact ahV aw ay.a2 ay.par ay.bM ay.ht ay.g8 ay.many I aF
 |false=>simp only[Zw,ZA];exact ahU aw ay.a2 ay.par ay.bM ay.ht ay.g8 I aF
structure rR(X:cb)(aK bP:Nat)(aT:List Tok)(n:Nat):Prop where
 level:∀h j i (q:Nat) r,q<=5->iJ X h j aK bP aT i->Go.aR.level n q (aT.drop i)=some r->aY X 243 [.ptr aK 0, .Z (q:Int)] h j (j0 X aK bP aT h j r) (iY X aK h j r)
 shift:∀h j i r,iJ X h j aK bP aT i->Go.aR.shift n (aT.drop i)=some r->aY X 251 [.ptr aK 0] h j (j0 X aK bP aT h j r) (iY X aK h j r)
 va:∀h j i r,iJ X h j aK bP aT i->Go.aR.yL n (aT.drop i)=some r->aY X 258 [.ptr aK 0] h j (j0 X aK bP aT h j r) (iY X aK h j r)
 part:∀h j i r,iJ X h j aK bP aT i->Go.aR.part n (aT.drop i)=some r->aY X 261 [.ptr aK 0] h j (j0 X aK bP aT h j r) (iY X aK h j r)
 l9:∀h j i r,iJ X h j aK bP aT i->Go.aR.l9 n (aT.drop i)=some r->aY X 232 [.ptr aK 0] h j (j0 X aK bP aT h j r) (iY X aK h j r)
 arrow:∀h j i r,iJ X h j aK bP aT i->Go.aR.arrow n (aT.drop i)=some r->aY X 208 [.ptr aK 0] h j (j0 X aK bP aT h j r) (iY X aK h j r)
 list:∀h j i r,iJ X h j aK bP aT i->Go.aR.list n (aT.drop i)=some r->aY X 262 [.ptr aK 0] h j (λac T an=>∃bH cD a8 cp,r= .ok (bH,aT.drop cD)/\dD X T (cQ j an) cp ac 1 (a8.map λv=>[v])/\dk X T (λe=>cQ j an e/\e≠cp) bH a8/\aR X T aK bP aT cD/\ca X [aK] h j T an) (iY X aK h j r)
def fh{C:aL}{f:Nat}{Ah:List D}{ak av:bI}{h:K ag}{j:Nat}(P:K ag->Prop)(bE:P h)(a:∀aX,P aX->aY C f Ah aX j ak av):aY C f Ah h j ak av:=a h bE
def qM(q:IntKind)(x:Int):D.same 30 (.int q x) (.int q x)=true:=by
 simp only[D.same,CT];cases q<;>simp[mD]
def aR.ex(a:aR X h aK bP aT i)(q:bo X h j T an)(I:aK<j)(J:bP<j):aR X T aK bP aT i:=a.ab (q.ab _ I) (q.ab _ J)
def ant(aw:du X){n:Nat}(al:∀m,m<n->rR X aK bP aT m):∀h j i r,iJ X h j aK bP aT i->Go.aR.arrow n (aT.drop i)=some r->aY X 208 [.ptr aK 0] h j (j0 X aK bP aT h j r) (iY X aK h j r):=by
 intro h j i r ay V
 cases n with
 |zero=>simp[Go.aR.arrow]at V
 |succ n=>
 refine zx aw (ak6 X) ?_
 rw[ak7]
 unfold ι
 have gP:=ay.a2
 have iQ:=ay.ht
 have h9:=ay.bM
 unfold Go.aR.arrow at V
 rcases gu V with ⟨F,I,rfl⟩|⟨left,ei,I,V⟩
 ·exact((al n Zo).l9 h j i _ ay I).mono (λac T an a=>by obtain⟨E,cD,a,_⟩:=a;cases a) (λac T an a=>a)
 refine((al n Zo).l9 h j i _ ay I).mono ?_ (λac T an a=>by obtain⟨F,a,_⟩:=a;cases a)
 rintro xb aP aG ⟨E,fC,bs,bN,en,il⟩
 cases bs
 have jm:=il.le
 have nc:=ay.go en jm
 obtain⟨x,bV,aH,af⟩:=rJ V
 refine(oj aw nc aH _).Zm ?_
 rintro I5 aM a1 ⟨rfl,dB,dl⟩
 have f7:=dl.le
 rcases af with ⟨aF,V⟩|⟨aF,V⟩
 ·rw[aF]at dB ⊢
  simp only[ZC]at dB ⊢
  rw[<-(fN aH).2]at V
  refine ci cd.eq_1 ⟨?_⟩
  refine fh (λaX=>bo X aM a1 aX (a1+1+9)/\Y X aX a1=zu (cd x) 7) ⟨dM,bg Zo⟩ ?_
  rintro aX ⟨cg,cS⟩
  rcases gu V with ⟨F,J,rfl⟩|⟨right,c4,J,V⟩
  ·refine((al n Zo).arrow aX _ _ _ (nc.go (dB.ex cg Zo (zq nc.g8)) Zo) J).mono (λac T an a=>by obtain⟨E,cD,a,_⟩:=a;cases a) (λac T an a=>a.of (il.trans (dl.trans (ca.of cg))) (λ_ a=>a))
  refine((al n Zo).arrow aX _ _ _ (nc.go (dB.ex cg Zo (zq nc.g8)) Zo) J).mono ?_ (λac T an a=>by obtain⟨F,a,_⟩:=a;cases a)
  rintro v4 bC da ⟨iL,i4,uL,dv,hl,ey⟩
  cases uL
  have jC:=ey.le
  simp only[ok,Zf]at V
  subst V
  have eh:Y X bC a1=zu (cd x) 7:=by rw[ey.ab _ Zo (by simp;omega)];exact cS
  obtain⟨cG,rfl,hA,_⟩:=bN.ptr
  obtain⟨fQ,rfl,nA,_⟩:=dv.ptr
  have hA:=hA.1
  refine cT (bO eh) cd.eq_1 ⟨?_⟩
  refine g2 (qM _ _) ?_
  refine⟨_,i4,rfl,cy.lit (ii:= .own) (cp:=a1+1+5) (a8:=[.ptr cG 0, .ptr fQ 0]) (bg Zo) ⟨Zo,Zo⟩ ?_ ⟨Zo,Zo⟩ rfl Zo Zo (dk.two (cy.ab (λe z=> ?_) _ _ bN) (cy.ab (λe z=> ?_) _ _ dv) (λe z=> ?_) (λe z=> ?_)), ?_, ?_⟩
  ·simp(disch:=omega) only[aI,bg]<;>rfl
  ·have I:=z.1;have J:=z.2
   simp(disch:=omega) only[aI]
   rw[ey.ab e Zo (by simp;omega),cg.ab e Zo,dl.ab e Zo (by simp;omega)]
  ·have I:=z.1;have J:=z.2
   simp(disch:=omega) only[aI]
  ·simp only[cQ]at z ⊢;omega
  ·simp only[cQ]at z ⊢;omega
  ·exact hl.ab (zw) (by have:=nc.g8;exact zw)
  ·exact⟨Zo,λb aj bZ=>by
    rw[<-((il.trans (dl.trans (ca.of cg))).trans ey).ab b aj bZ]
    simp(disch:=omega) only[aI]⟩
 ·rw[aF]at dB ⊢
  simp only[Zw,ZA]at dB ⊢
  simp only[ok,Zf]at V
  subst V
  refine cT cd.eq_1 hc.eq_1 ⟨?_⟩
  refine⟨left,fC,rfl,cy.ex bN (λe I J=> ?_) (Zi _) Zo,dB.ab (zw) (by have:=nc.g8;exact zw), ?_⟩
  ·simp(disch:=omega) only[aI]
   exact dl.ab e Zo (by simp;omega)
  ·exact⟨Zo,λb aj bZ=>by rw[<-(il.trans dl).ab b aj bZ];exact zw⟩
end
section
variable{X:cb}{h T aP aM:K ag}{j an aG a1 aK bP:Nat}{aT:List Tok}{i:Nat}
def apV(aw:du X){n:Nat}(al:∀m,m<n->rR X aK bP aT m):∀h j i r,iJ X h j aK bP aT i->Go.aR.l9 n (aT.drop i)=some r->aY X 232 [.ptr aK 0] h j (j0 X aK bP aT h j r) (iY X aK h j r):=by
 intro h j i r ay V
 cases n with
 |zero=>simp[Go.aR.l9]at V
 |succ n=>
 refine zx aw (alB X) ?_
 rw[alC]
 unfold ω
 have gP:=ay.a2
 have iQ:=ay.ht
 have h9:=ay.bM
 unfold Go.aR.l9 at V
 rcases gu V with ⟨F,I,rfl⟩|⟨left,ei,I,V⟩
 ·exact((al n Zo).level h j i 0 _ Zo ay I).mono (λac T an a=>by obtain⟨E,cD,a,_⟩:=a;cases a) (λac T an a=>a)
 refine((al n Zo).level h j i 0 _ Zo ay I).mono ?_ (λac T an a=>by obtain⟨F,a,_⟩:=a;cases a)
 rintro xb aP aG ⟨E,fC,bs,bN,en,il⟩
 cases bs
 have jm:=il.le
 have nc:=ay.go en jm
 obtain⟨x,bV,aH,af⟩:=rJ V
 refine(oj aw nc aH _).Zm ?_
 rintro I5 aM a1 ⟨rfl,dB,dl⟩
 have f7:=dl.le
 have jT:=nc.g8
 rcases af with ⟨aF,V⟩|⟨aF,V⟩
 ·rw[aF]at dB ⊢
  simp only[ZC]at dB ⊢
  rw[<-(fN aH).2]at V
  simp only[]at V
  obtain⟨cG,aW,cp,a8,rfl,hA,sn,bR,cq,cP,d0,dU,dy,gQ,hS,jF,pJ⟩:=bN.open
  have hA:=hA
  obtain⟨aDG,aDH⟩:=hA
  have d3:aO X aM (.ptr cG 0)=some (.Z left.kind):=by rw[dl.fZ _ _ Zo (by simp;omega)];exact sn
  have vw:aO X aM (.ptr cG 8)=some aW:=by rw[dl.fZ _ _ Zo (by simp;omega)];exact hS
  have ck:u3 left=some true->∀(H:cV) (aX:K ag) (bf:Nat),H.g 4=some (.ptr a1 0)->H.g 3=some (.ptr cG 0)->H.g 0=some (.ptr aK 0)->bo X aM a1 aX bf->a1<bf->Y X aX a1=zu (cd x) 7->
   fb (bf+9) λaxv=>cL (H.g 4) λaA5=>ax (hv 2 aA5) λah9=>ax (aO X aX ah9) λaia=>cL (H.g 3) λaA6=>cL (H.g 0) λaA7=>aY X 232 [aA7] aX axv (λaBG amE axw=>ax (hi 2 [.cx, .cx] [(0,1,aA6),(1,1,aBG)] (bf+5)) λahi=>mF X amE (bf+5) ahi.1 ahi.2 λaBH amF=>ax (e8 [.Z 0,.Z 0,.str [],.zF,.zF,.zF,.Z 0,.int .u64 0, .aV] [(0,1,(.Z 21)),(1,1,aia),(8,1,aBH)]) λaBI=>xP X amF (bf+7) aBI λaBJ aaN=>ax (aO X aaN ah9) λaBK=>gT aBK (some aia) (j0 X aK bP aT h j r aBJ aaN axw)) (iY X aK h j r):=by
   intro T3 H aX bf t4 t3 t0 cg c2 cS
   rw[T3]at V
   simp only[]at V
   refine gg @t4 @t3 @t0 (bO cS) cd.eq_1 ⟨?_⟩
   rcases gu V with ⟨F,J,rfl⟩|⟨right,c4,J,V⟩
   ·refine((al n Zo).l9 aX _ _ _ (nc.go (dB.ex cg Zo Zo) Zo) J).mono (λac T an a=>by obtain⟨E,cD,a,_⟩:=a;cases a) (λac T an a=>a.of (il.trans (dl.trans (ca.of (cg.more Zo)))) (λ_ a=>a))
   refine((al n Zo).l9 aX _ _ _ (nc.go (dB.ex cg Zo Zo) Zo) J).mono ?_ (λac T an a=>by obtain⟨F,a,_⟩:=a;cases a)
   rintro v4 bC da ⟨iL,i4,uL,dv,hl,ey⟩
   cases uL
   have jC:=ey.le
   simp only[ok,Zf]at V
   subst V
   have eh:Y X bC a1=zu (cd x) 7:=by rw[ey.ab _ Zo (by simp;omega)];exact cS
   obtain⟨fQ,rfl,nA,_⟩:=dv.ptr
   refine cT (bO eh) cd.eq_1 ⟨?_⟩
   refine g2 (qM _ _) ?_
   refine⟨_,i4,rfl,cy.lit (ii:= .own) (cp:=bf+5) (a8:=[.ptr cG 0, .ptr fQ 0]) (bg Zo) ⟨Zo,Zo⟩ ?_ ⟨Zo,Zo⟩ rfl Zo Zo (dk.two (cy.ab (λe z=> ?_) _ _ bN) (cy.ab (λe z=> ?_) _ _ dv) (λe z=> ?_) (λe z=> ?_)), ?_, ?_⟩
   ·simp(disch:=omega) only[aI,bg]<;>rfl
   ·have I:=z.1;have J:=z.2
    simp(disch:=omega) only[aI]
    rw[ey.ab e Zo (by simp;omega),cg.ab e Zo,dl.ab e Zo (by simp;omega)]
   ·have I:=z.1;have J:=z.2
    simp(disch:=omega) only[aI]
   ·simp only[cQ]at z ⊢;omega
   ·simp only[cQ]at z ⊢;omega
   ·exact hl.ab (zw) (zw)
   ·exact⟨Zo,λb aj bZ=>by
     rw[<-((il.trans (dl.trans (ca.of (cg.more (by omega:bf<=bf+9))))).trans ey).ab b aj bZ]
     simp(disch:=omega) only[aI]⟩
  have acr:u3 left=some false->∀(aX:K ag) (bf:Nat) (ak:bI),bo X aM a1 aX bf->aY X 206 [.agg (cd x)] aX bf ak (iY X aK h j r):=by
   intro T3 aX bf ak cg
   rw[T3]at V
   simp only[bad,Zf]at V
   subst V
   refine(J9 aw (zq cg.le) x _ ?_).mono (λ_ _ _ a=>a.elim) (λ_ _ _ a=>a)
   intro T an bT
   exact⟨_,rfl,rfl,il.trans (dl.trans (ca.of (cg.trans bT)))⟩
  by_cases kq:left.kind=1
  ·have cX:decide (left.kind≠1)=false:=by simp[kq]
   refine he cd.eq_1 @d3 @cX ⟨?_⟩
   refine gZ ?_
   refine he cd.eq_1 @d3 @cX ⟨?_⟩
   refine gZ ?_
   refine qi ?_
   exact ck (by simp[u3,kq]) _ _ _ (bw) (bw) (bw) dM Zo (bg Zo)
  ·have cX:decide (left.kind≠1)=true:=by simp[kq]
   by_cases gh:left.kind=4
   ·have iK:decide (left.kind≠4)=false:=by simp[gh]
    cases yd:left.args with
    |nil=>
     simp[u3,gh,yd]at V
    |cons F Ah=>
     obtain⟨v,bD,Ew⟩:=pJ.get 0 F (by rw[yd];rfl)
     obtain⟨gS,nb,sz⟩:=jF.one bD
     have gS:gv 1 aW (.Z 0)=some (.ptr cp 0):=gS
     obtain⟨mI,rfl,aug,mC⟩:=Ew.ptr
     obtain⟨aDI,aDJ⟩:=aug
     obtain⟨aEl,aEm⟩:=sz
     have Nk:aO X aM (.ptr cp 0)=some (.ptr mI 0):=by rw[dl.fZ _ _ Zo (by simp;omega)];exact nb
     have vy:aO X aM (.ptr mI 0)=some (.Z F.kind):=by rw[dl.fZ _ _ Zo (by simp;omega)];exact mC
     by_cases aC:F.kind=1
     ·have ga:decide (F.kind≠1)=false:=by simp[aC]
      refine he cd.eq_1 @d3 (Za @cX (Za @iK (Za @vw (Za @gS (Za @Nk (Za @vy @ga)))))) ⟨?_⟩
      refine gZ ?_
      refine he cd.eq_1 @d3 (Za @cX (Za @iK (Za @vw (Za @gS (Za @Nk (Za @vy @ga)))))) ⟨?_⟩
      refine gZ ?_
      refine qi ?_
      exact ck (by simp[u3,gh,yd,aC]) _ _ _ (bw) (bw) (bw) dM Zo (bg Zo)
     ·have ga:decide (F.kind≠1)=true:=by simp[aC]
      refine he cd.eq_1 @d3 (Za @cX (Za @iK (Za @vw (Za @gS (Za @Nk (Za @vy @ga)))))) ⟨?_⟩
      refine gZ ?_
      refine he cd.eq_1 @d3 (Za @cX (Za @iK (Za @vw (Za @gS (Za @Nk (Za @vy @ga)))))) ⟨?_⟩
      refine gZ ?_
      refine qj ?_
      refine ci cd.eq_1 ⟨?_⟩
      exact acr (by simp[u3,gh,yd,aC]) _ _ _ dM
   ·have iK:decide (left.kind≠4)=true:=by simp[gh]
    refine he cd.eq_1 @d3 (Za @cX @iK) ⟨?_⟩
    refine gZ ?_
    refine he cd.eq_1 @d3 (Za @cX @iK) ⟨?_⟩
    refine gZ ?_
    refine qj ?_
    refine ci cd.eq_1 ⟨?_⟩
    exact acr (by simp[u3,kq,gh]) _ _ _ dM
 ·rw[aF]at dB ⊢
  simp only[Zw,ZA]at dB ⊢
  simp only[ok,Zf]at V
  subst V
  refine cT cd.eq_1 hc.eq_1 ⟨?_⟩
  refine⟨left,fC,rfl,cy.ex bN (λe I J=> ?_) (Zi _) Zo,dB.ab (zw) (zw), ?_⟩
  ·simp(disch:=omega) only[aI]
   exact dl.ab e Zo (by simp;omega)
  ·exact⟨Zo,λb aj bZ=>by rw[<-(il.trans dl).ab b aj bZ];exact zw⟩
end
section
variable{X:cb}{h T aP aM:K ag}{j an aG a1 aK bP:Nat}{aT:List Tok}{i:Nat}
def aiM(X:cb)(aK bP:Nat)(aT:List Tok)(h:K ag)(j:Nat)(r:Option be×List Tok):bI:=λac T an=>∃cD,r.2=aT.drop cD/\aR X T aK bP aT cD/\ca X [aK] h j T an/\
 match r.1 with
 |none=>ac= .tuple [.cx, .zF]
 |some E=>∃b q F,E= .mk q F [] false dH 0 []/\ac= .tuple [.ptr b 0, .zT]/\j<=b/\b<an/\Y X T b=zu (gE q F [] false dH 0 .aV) 9
def anN(aw:du X)(eN:xC X){q:Nat}(aD:q<5)(ay:iJ X h j aK bP aT i){r:Option be×List Tok}(V:ps (ar q) (aT.drop i)=some r):
 aY X 252 [.ptr aK 0, .Z (q:Int)] h j (aiM X aK bP aT h j r) (λ_ _ _=>False):=by
 refine zx aw (alT X) ?_
 rw[alU]
 unfold aai
 have gP:=ay.a2
 have iQ:=ay.ht
 have h9:=ay.bM
 have jT:=ay.g8
 obtain⟨arS,eN⟩:=eN
 obtain⟨b,aW,jF,cA⟩:=eN h q aD
 have dS:HY 5 1 (.ptr 9 0) (.Z (q:Int))=some (.ptr 9 q):=by
  simp[HY,sv,MD,fA,aD]
 have fI:=cA.len
 rw[Zn]at fI
 have wg:=cA.many
 rw[Zn]at wg
 refine he @dS @jF @fI ⟨?_⟩
 refine gZ ?_
 refine fK (λm H T n=>∃W,m=(ar q).length-W/\W<=(ar q).length/\H.g 0=some (.ptr aK 0)/\H.g 12=some aW/\H.g 13=some (.Z ((ar q).length:Int))/\H.g 14=some (.Z (W:Int))/\aR X T aK bP aT i/\ca X [aK] h j T n/\ps ((ar q).drop W) (aT.drop i)=some r)
  (ar q).length ⟨0,Zo,Zo,bw,bw,bw,fW,ay.par,ca.refl _ _ _,V⟩ ?_
 rintro m H aM n ⟨W,rfl,bK,t0,rH,jt,lb,dB,gm,aj⟩
 have gq:=gm.le
 have fP:=ay.go dB gq
 refine NW @jt @lb ⟨?_⟩
 refine gZ ?_
 refine GG (λc2=> ?_) (λc2=> ?_)
 ·have c2:W<(ar q).length:=Zo
  have ko:(ar q).drop W=(ar q)[W]::(ar q).drop (W+1):=Zv c2
  rw[ko]at aj
  have aei:=cA.f3 W (by simpa using c2)
  have e3:=((eN aM q aD).choose_spec)
  obtain⟨cf,Qr,wl,wj⟩:=eN aM q aD
  have Uz:Qr=aW:=by
   have E:aO X aM (.ptr 9 q)=aO X h (.ptr 9 q):=by
    rw[co,co]
    have:∀h:K ag,Y X h 9=X.G.get 9:=λh=>by
     have asp:Nat.blt 9 (o X).a2=true:=by simp[Nat.blt];exact arS
     simp only[Y,asp,eX];rfl
    rw[this,this]
   rw[E,jF]at wl
   exact(YB wl).symm
  subst Uz
  have aei:=wj.f3 W (by simpa using c2)
  have e3:=λaX (a:∀e,e<X.a2->Y X aX e=Y X aM e)=>(wj.ab (T:=aX) a).row Zd (i:=W) (r:=[.str (ar q)[W].1, .Z (ar q)[W].2]) (by rw[Zy,Ze c2];rfl)
  have e3:=e3 aM (λ_ _=>rfl)
  generalize (ar q)[W]=U at aj e3 ko
  obtain⟨s,ff⟩:=U
  simp only[ps]at aj
  refine gg @rH @lb @aei @e3 @t0 ⟨?_⟩
  refine fh (λaX=>bo X aM n aX (n+1)/\Y X aX n=zu [.str s, .Z ff] 2) ⟨dM,bg Zo⟩ ?_
  rintro aX ⟨cg,cS⟩
  cases aH:aT.drop i with
  |nil=>rw[aH]at aj;simp[mm]at aj
  |cons x k=>
   rw[aH]at aj
   refine(oj aw (fP.go (dB.ex cg Zo Zo) Zo) aH s).Zm ?_
   rintro ac bC da ⟨rfl,hl,ey⟩
   have jC:=ey.le
   have eh:Y X bC n=zu [.str s, .Z ff] 2:=by rw[ey.ab _ Zo (by simp;omega)];exact cS
   have oL:=gm.trans ((ca.of cg).trans ey)
   cases aF:g9 x s with
   |true=>
    rw[aF]at hl
    simp only[mm,aF,ZC]at aj hl ⊢
    simp only[Zf]at aj
    subst aj
    refine cT cd.eq_1 (bO eh) ⟨?_⟩
    refine⟨i+1,(fN aH).2.symm,hl.ab (zw) (zw), ?_,da+1,ff,x.at_,rfl,rfl,Zo,Zo, ?_⟩
    ·exact⟨Zo,λb aj bZ=>by rw[<-oL.ab b aj bZ];exact zw⟩
    ·simp(disch:=omega) only[aI,bg]<;>rfl
   |false=>
    rw[aF]at hl
    simp only[mm,aF,Zw,ZA]at aj hl ⊢
    have bF:=zv W
    refine gx cd.eq_1 hc.eq_1 @lb @bF ⟨?_⟩
    refine⟨_, ?_,W+1,rfl,Zo,a7 t0,a7 rH,a7 jt,bw,hl.ab (zw) (zw), ?_,aj⟩
    ·omega
    ·exact⟨Zo,λb aj bZ=>by rw[<-oL.ab b aj bZ];exact zw⟩
 ·have bK:W=(ar q).length:=Zo
  subst bK
  rw[List.drop_length]at aj
  simp only[ps,Zf]at aj
  subst aj
  refine cK ⟨?_⟩
  exact⟨i,rfl,dB,gm,rfl⟩
end
section
variable{X:cb}{h T aP aM:K ag}{j an aG a1 aK bP:Nat}{aT:List Tok}{i:Nat}
def awL(aw:du X)(eN:xC X){n:Nat}(al:∀m,m<n->rR X aK bP aT m):∀h j i (q:Nat) r,q<=5->iJ X h j aK bP aT i->Go.aR.level n q (aT.drop i)=some r->aY X 243 [.ptr aK 0, .Z (q:Int)] h j (j0 X aK bP aT h j r) (iY X aK h j r):=by
 intro h j i q r aD ay V
 cases n with
 |zero=>simp[Go.aR.level]at V
 |succ n=>
 refine zx aw (alN X) ?_
 rw[alO]
 unfold aaf
 have gP:=ay.a2
 have iQ:=ay.ht
 have h9:=ay.bM
 have jT:=ay.g8
 unfold Go.aR.level at V
 by_cases md:q=5
 ·subst md
  rw[Zu rfl]at V
  have cX:decide (((5:Nat):Int)=5)=true:=rfl
  refine ci @cX ⟨?_⟩
  exact(al n Zo).shift h j i r ay V
 ·rw[Zg md]at V
  have cX:decide ((q:Int)=5)=false:=by simp;omega
  have bF:=zv q
  refine cT @cX @bF ⟨?_⟩
  rcases gu V with ⟨F,I,rfl⟩|⟨left,ei,I,V⟩
  ·exact((al n Zo).level h j i (q+1) _ Zo ay I).mono (λac T an a=>by obtain⟨E,cD,a,_⟩:=a;cases a) (λac T an a=>a)
  refine((al n Zo).level h j i (q+1) _ Zo ay I).mono ?_ (λac T an a=>by obtain⟨F,a,_⟩:=a;cases a)
  rintro xb aP aG ⟨E,fC,bs,bN,en,il⟩
  cases bs
  have jm:=il.le
  refine gZ ?_
  refine fK (λm H T aU=>∃left v cD,m<=n/\H.g 0=some (.ptr aK 0)/\H.g 1=some (.Z (q:Int))/\H.g 5=some v/\cy X T (cQ j aU) left v/\aR X T aK bP aT cD/\ca X [aK] h j T aU/\pU m q left (aT.drop cD)=some r)
   n ⟨left,xb,fC,Zi _,bw,bw,bw,bN,en,il,V⟩ ?_
  clear bN en il I V
  rintro m H aM a1 ⟨left,v,fe,bp,t0,t1,t5,bJ,dB,dl,V⟩
  cases m with
  |zero=>simp[pU]at V
  |succ m=>
  unfold pU at V
  have f7:=dl.le
  have fP:=ay.go dB f7
  refine gZ ?_
  refine cT @t0 @t1 ⟨?_⟩
  cases aj:ps (ar q) (aT.drop fe)with
  |none=>rw[aj]at V;cases V
  |some Mb=>
  rw[aj]at V
  refine(anN aw eN Zo fP aj).Zm ?_
  rintro BE aX bf ⟨i3,uK,gI,dY,bb⟩
  have ip:=dY.le
  obtain⟨ro,Qi⟩:=Mb
  simp only[]at uK
  subst uK
  cases ro with
  |none=>
   simp only[]at bb V
   subst bb
   simp only[ok,Zf]at V
   subst V
   refine ci @t5 ⟨?_⟩
   exact⟨left,i3,rfl,cy.fr bJ dY Zo Zo (Zi _) Zo,gI,dl.trans dY⟩
  |some E=>
   simp only[]at bb V
   obtain⟨b,ff,F,rfl,rfl,oO,ny,cS⟩:=bb
   refine gx @t0 @t1 @t5 @bF ⟨?_⟩
   rcases gu V with ⟨fV,aB,rfl⟩|⟨right,g6,aB,V⟩
   ·refine((al m Zo).level aX bf i3 (q+1) _ Zo (fP.go gI ip) aB).mono (λac T an a=>by obtain⟨E,cD,a,_⟩:=a;cases a) (λac T an a=>a.of (dl.trans dY) (λ_ a=>a))
   refine((al m Zo).level aX bf i3 (q+1) _ Zo (fP.go gI ip) aB).mono ?_ (λac T an a=>by obtain⟨F,a,_⟩:=a;cases a)
   rintro v4 bC da ⟨iL,i4,uL,dv,hl,ey⟩
   cases uL
   have jC:=ey.le
   have eh:Y X bC b=zu (gE ff F [] false dH 0 .aV) 9:=by rw[ey.ab _ Zo (by simp;omega)];exact cS
   obtain⟨cw,rfl,ka,_⟩:=bJ.ptr
   obtain⟨fQ,rfl,nA,_⟩:=dv.ptr
   refine et @t5 @eh @t1 ⟨?_⟩
   have fin:∀gA,gA=bn X (bn X bC da (zu [.ptr cw 0, .ptr fQ 0] 2)) b (zu (gE ff F [] false dH 0 (.slice da 0 2 2)) 9)->cy X gA (cQ j (da+1)) (two (.mk ff F [] false dH 0 []) left right) (.ptr b 0)/\aR X gA aK bP aT i4/\ca X [aK] h j gA (da+1):=by
    rintro gA rfl
    refine⟨cy.lit (ii:= .own) (cp:=da) (a8:=[.ptr cw 0, .ptr fQ 0]) (bg Zo) ⟨Zo,Zo⟩ ?_ ⟨Zo,Zo⟩ rfl Zo Zo (dk.two (cy.ab (λe z=> ?_) _ _ bJ) (cy.ab (λe z=> ?_) _ _ dv) (λe z=> ?_) (λe z=> ?_)), ?_, ?_⟩
    ·simp(disch:=omega) only[aI,bg]
    ·have I:=z.1;have J:=z.2
     simp(disch:=omega) only[aI]
     rw[ey.ab e Zo (by simp;omega),dY.ab e Zo (by simp;omega)]
    ·have I:=z.1;have J:=z.2
     simp(disch:=omega) only[aI]
    ·simp only[cQ]at z ⊢;omega
    ·simp only[cQ]at z ⊢;omega
    ·exact hl.ab (zw) (zw)
    ·exact⟨Zo,λe z bZ=>by
      rw[<-((dl.trans dY).trans ey).ab e z bZ]
      simp(disch:=omega) only[aI]⟩
   obtain⟨eM,eV,iZ⟩:=fin (bn X (bn X bC da (zu [.ptr cw 0, .ptr fQ 0] 2)) b (some (.cells (dN (K.ofList (gE ff F [] false dH 0 .aV) 0 .nil) 8 (D.slice da 0 2 2).cells) 9 .own))) rfl
   refine GG (λJ=> ?_) (λJ=> ?_)
   ·have i6:q=2:=Zo
    rw[Zu i6]at V
    simp only[ok,Zf]at V
    subst V
    exact⟨_,i4,rfl,eM,eV,iZ⟩
   ·rw[Zg Zo]at V
    exact⟨m,Zo,_, .ptr b 0,i4,Zo,a7 t0,a7 t1,bw,eM,eV,iZ,V⟩
end
section
variable{X:cb}{h T aP aM:K ag}{j an aG a1 aK bP:Nat}{aT:List Tok}{i:Nat}
def aAe(aw:du X){n:Nat}(al:∀m,m<n->rR X aK bP aT m):∀h j i r,iJ X h j aK bP aT i->Go.aR.shift n (aT.drop i)=some r->aY X 251 [.ptr aK 0] h j (j0 X aK bP aT h j r) (iY X aK h j r):=by
 intro h j i r ay V
 cases n with
 |zero=>simp[Go.aR.shift]at V
 |succ n=>
 refine zx aw (alR X) ?_
 rw[alS]
 unfold aah
 have gP:=ay.a2
 have iQ:=ay.ht
 have h9:=ay.bM
 have jT:=ay.g8
 unfold Go.aR.shift at V
 rcases gu V with ⟨F,I,rfl⟩|⟨left,ei,I,V⟩
 ·exact((al n Zo).va h j i _ ay I).mono (λac T an a=>by obtain⟨E,cD,a,_⟩:=a;cases a) (λac T an a=>a)
 refine((al n Zo).va h j i _ ay I).mono ?_ (λac T an a=>by obtain⟨F,a,_⟩:=a;cases a)
 rintro xb aP aG ⟨E,fC,bs,bN,en,il⟩
 cases bs
 have jm:=il.le
 refine gZ ?_
 refine fK (λm H T aU=>∃left v cD,H.g 0=some (.ptr aK 0)/\H.g 3=some v/\cy X T (cQ j aU) left v/\aR X T aK bP aT cD/\ca X [aK] h j T aU/\p5 m left (aT.drop cD)=some r)
  n ⟨left,xb,fC,bw,bw,bN,en,il,V⟩ ?_
 clear bN en il I V jm
 rintro m H aM a1 ⟨left,v,fe,t0,t3,bJ,dB,dl,V⟩
 cases m with
 |zero=>simp[p5]at V
 |succ m=>
 unfold p5 at V
 have f7:=dl.le
 have fP:=ay.go dB f7
 refine gZ ?_
 obtain⟨cw,rfl,ka,_⟩:=bJ.ptr
 have ka:=ka.2
 refine ci @t0 ⟨?_⟩
 obtain⟨x,bV,aH,af⟩:=rJ V
 refine(oj aw fP aH _).Zm ?_
 rintro BE aX bf ⟨rfl,gI,dY⟩
 have ip:=dY.le
 have mv:=aH
 refine r7 cd.eq_1 ⟨?_⟩
 refine kt (λc1 T aU=>∃Lw ff x cD dV,c1.g 0=some (.ptr aK 0)/\c1.g 3=some (.ptr cw 0)/\c1.g 4=some (.Z ff)/\c1.g 5=some (.ptr dV 0)/\c1.g 6=some (.bool Lw)/\Y X T dV=zu (cd x) 7/\a1<=dV/\dV<aU/\cy X T (cQ j a1) left (.ptr cw 0)/\aR X T aK bP aT cD/\ca X [aK] h j T aU/\a1<=aU/\
  (Lw=true->p6 m ff x left (aT.drop cD)=some r)/\(Lw=false->r= .ok (left,aT.drop cD))) (λW bK=> ?_) ?_
 ·have cS:∀h,Y X (bn X (bn X h bf (zu (cd hc) 7)) bf (some (.cells (dN (K.ofList (cd hc) 0 .nil) 0 (cd x)) 7 .own))) bf=zu (cd x) 7:=λh=>bg Zo
  rcases af with ⟨aF,V⟩|⟨aF,V⟩
  ·rw[aF]at gI ⊢
   simp only[ZC]at gI ⊢
   refine cK ⟨?_⟩
   refine bK _ _ _ ⟨true,19,x,fe+1,bf,a7 t0,a7 t3,bw,bw,bw,bg Zo,Zo,Zo, ?_,gI.ab (zw) (zw), ?_,Zo,λ_=>by rw[(fN mv).2];exact V,λa=>by cases a⟩
   ·refine cy.ex bJ (λe I J=> ?_) (Zi _) (Zi _)
    simp(disch:=omega) only[aI]
    exact dY.ab e Zo (by simp;omega)
   ·exact⟨Zo,λe z bZ=>by rw[<-(dl.trans dY).ab e z bZ];exact zw⟩
  ·rw[aF]at gI ⊢
   simp only[Zw,ZA]at gI ⊢
   simp only[]at V
   refine ci @t0 ⟨?_⟩
   refine fh (λbC=>bo X aX bf bC (bf+1)/\Y X bC bf=zu (cd hc) 7) ⟨dM,bg Zo⟩ ?_
   rintro bC ⟨dv,eh⟩
   have k6:=fP.go (gI.ex dv Zo Zo) (by omega:a1<=bf+1)
   obtain⟨e,gJ,pB,avh⟩:=rJ V
   refine(oj aw k6 pB _).Zm ?_
   rintro FY bW b4 ⟨rfl,hm,dF⟩
   have ib:=dF.le
   have fS:Y X bW bf=zu (cd hc) 7:=by rw[dF.ab _ Zo (by simp;omega)];exact eh
   have eA:∀e,e<a1->e≠aK->Y X bW e=Y X aM e:=λe I J=>by
    rw[dF.ab e Zo (by simpa using J),dv.ab e Zo,dY.ab e Zo (by simpa using J)]
   have eu:=((dl.trans dY).trans (ca.of dv)).trans dF
   unfold cd hc dH at fS
   rcases avh with ⟨A5,V⟩|⟨A5,V⟩
   ·rw[A5]at hm ⊢
    simp only[ZC]at hm ⊢
    refine cT cd.eq_1 @fS ⟨?_⟩
    refine bK _ _ _ ⟨true,20,e,fe+1,bf,a7 t0,a7 t3,bw,bw,bw,bg Zo,Zo,Zo, ?_,hm.ab (zw) (zw), ?_,Zo,λ_=>by rw[(fN pB).2];exact V,λa=>by cases a⟩
    ·refine cy.ex bJ (λe I J=> ?_) (Zi _) (Zi _)
     simp(disch:=omega) only[aI]
     exact eA e J Zo
    ·exact⟨Zo,λe z bZ=>by rw[<-eu.ab e z bZ];exact zw⟩
   ·rw[A5]at hm ⊢
    simp only[Zw,ZA]at hm ⊢
    simp only[ok,Zf]at V
    refine gx cd.eq_1 hc.eq_1 dH.eq_1 @fS ⟨?_⟩
    refine bK _ _ _ ⟨false,20,hc,fe,bf,a7 t0,a7 t3,bw,bw,bw,bg Zo,Zo,Zo, ?_,hm.ab (zw) (zw), ?_,Zo,λa=>(by cases a),λ_=>V.symm⟩
    ·refine cy.ex bJ (λe I J=> ?_) (Zi _) (Zi _)
     simp(disch:=omega) only[aI]
     exact eA e J Zo
    ·exact⟨Zo,λe z bZ=>by rw[<-eu.ab e z bZ];exact zw⟩
 ·clear bJ gI dY af V aH mv dB fP
  rintro aCj b9 eB ⟨Lw,ff,x,ie,dV,t0,t3,t4,t5,fU,dT,aDz,aDA,eG,hz,eu,tq,z,nz⟩
  cases Lw with
  |false=>
   have V:=nz rfl
   subst V
   refine cT @fU @t3 ⟨?_⟩
   exact⟨left,ie,rfl,cy.lift (λe z=>⟨z.1,zq z.2⟩) _ _ eG,hz,eu⟩
  |true=>
   have V:=z rfl
   cases m with
   |zero=>simp[p6]at V
   |succ m=>
   unfold p6 at V
   have mG:=ay.go hz (by omega:j<=eB)
   refine cT @fU @t0 ⟨?_⟩
   cases aH:aT.drop ie with
   |nil=>rw[aH]at V;simp[iU,andThen]at V
   |cons e k=>
   rw[aH]at V
   simp only[iU]at V
   refine(Df aw mG.a2 mG.par mG.bM mG.ht mG.g8 mG.many (fN aH).1 4).mono ?_ ?_
   ·rintro ah5 cB ef ⟨aD,rfl,hQ,el⟩
    have n5:=el.le
    rw[Zu aD]at V
    simp only[andThen,ok]at V
    have eY:Y X cB dV=zu (cd x) 7:=by rw[el.ab _ Zo (by simp;omega)];exact dT
    have eW:=cy.ex (T:=cB) eG (λe I J=>el.ab e Zo (by simp;omega)) (Zi _) (Zi _)
    have oL:=eu.trans el
    refine r7 cd.eq_1 ⟨?_⟩
    refine gZ ?_
    refine GG (λTv=> ?_) (λTv=> ?_)
    ·rw[Zu Tv]at V
     simp only[bad,Zf]at V
     subst V
     refine ci cd.eq_1 ⟨?_⟩
     refine(J9 aw Zo e _ ?_).mono (λ_ _ _ a=>a.elim) (λ_ _ _ a=>a)
     intro T an bT
     exact⟨_,rfl,rfl,oL.trans (ca.of (bo.trans dM bT))⟩
    ·rw[Zg Tv]at V
     refine gg cd.eq_1 @t4 @t5 @t3 (bO eY) ⟨?_⟩
     refine⟨m,Zo,_, .ptr (ef+1+1) 0,ie+1,a7 t0,bw,cy.lit (q:=1) (cap:=1) (n:=e.n) (kind:=ff) (at_:=x.at_) (name:=[]) (no:=false) (ty:=dH) (b:=ef+1+1) (ii:= .own) (cp:=ef+1) (a8:=[.ptr cw 0]) (bg (b:=ef+1+1) Zo) ⟨Zo,Zo⟩ ?_ ⟨Zo,Zo⟩ rfl Zo Zo (dk.one (cy.ab (λe z=> ?_) _ _ eW) (λe z=> ?_)), ?_, ?_,by rw[(fN aH).2];exact V⟩
     ·simp(disch:=omega) only[aI,bg]<;>rfl
     ·have I:=z.1;have J:=z.2
      simp(disch:=omega) only[aI]
     ·simp only[cQ]at z ⊢;omega
     ·exact hQ.ab (zw) (zw)
     ·exact⟨Zo,λe z bZ=>by
       rw[<-oL.ab e z bZ]
       simp(disch:=omega) only[aI]⟩
   ·rintro ah5 cB ef ⟨aD,rfl,el⟩
    rw[Zg aD]at V
    simp only[andThen,bad,Zf]at V
    subst V
    exact⟨_,rfl,rfl,eu.trans el⟩
end
section
variable{X:cb}{h T aP aM:K ag}{j an aG a1 aK bP:Nat}{aT:List Tok}{i:Nat}
def avO{n bl W:Nat}{cs:List D}(q:IntKind)(a:W<n):uZ true n bl (.agg cs) (.int q (W:Int))=some (.agg ((cs.drop (W*bl)).take bl)):=by
 simp[uZ,sv,fA,a]
def VO:List D:=[.str [110,111,116], .Z 3, .str [45], .Z 4, .str [112,114,101], .Z 5]
def ayM{W:Nat}(a:W<3):∃s q,Bp.drop W=(s,q)::Bp.drop (W+1)/\(VO.drop (W*2)).take 2=[.str s, .Z q]:=by
 match W,a with
 |0,_=>exact⟨_,_,rfl,rfl⟩
 |1,_=>exact⟨_,_,rfl,rfl⟩
 |2,_=>exact⟨_,_,rfl,rfl⟩
def ayT(aw:du X){n:Nat}(al:∀m,m<n->rR X aK bP aT m):∀h j i r,iJ X h j aK bP aT i->Go.aR.yL n (aT.drop i)=some r->aY X 258 [.ptr aK 0] h j (j0 X aK bP aT h j r) (iY X aK h j r):=by
 intro h j i r ay V
 cases n with
 |zero=>simp[Go.aR.yL]at V
 |succ n=>
 refine zx aw (alV X) ?_
 rw[alW]
 unfold aaj
 have gP:=ay.a2
 have iQ:=ay.ht
 have h9:=ay.bM
 have jT:=ay.g8
 unfold Go.aR.yL at V
 cases aj:ps Bp (aT.drop i)with
 |none=>rw[aj]at V;cases V
 |some Mb=>
 rw[aj]at V
 refine AC ⟨?_⟩
 refine kt (λH T aU=>H.g 0=some (.ptr aK 0)/\aR X T aK bP aT i/\ca X [aK] h j T aU/\Mb=(none,aT.drop i)) (λW bK=> ?_) ?_
 ·refine fK (λm H T aU=>∃W,m=3-W/\W<=3/\H.g 0=some (.ptr aK 0)/\H.g 15=some (.agg VO)/\H.g 16=some (.Z (W:Int))/\aR X T aK bP aT i/\ca X [aK] h j T aU/\ps (Bp.drop W) (aT.drop i)=some Mb)
   3 ⟨0,rfl,Zo,bw,fW,fW,ay.par,ca.refl _ _ _,aj⟩ ?_
  rintro m H aM a1 ⟨W,rfl,OQ,t0,w3,Bz,dB,dl,aj⟩
  have f7:=dl.le
  have fP:=ay.go dB f7
  refine r7 @Bz ⟨?_⟩
  refine gZ ?_
  refine GG (λc2=> ?_) (λc2=> ?_)
  ·have c2:W<3:=Zo
   obtain⟨s,ff,ko,e3⟩:=ayM c2
   rw[ko]at aj
   simp only[ps]at aj
   have aeh:=avO (n:=3) (bl:=2) (cs:=VO) .i64 c2
   rw[e3]at aeh
   refine gx @w3 @Bz @aeh @t0 ⟨?_⟩
   refine fh (λaX=>bo X aM a1 aX (a1+1)/\Y X aX a1=zu [.str s, .Z ff] 2) ⟨dM,bg Zo⟩ ?_
   rintro aX ⟨cg,cS⟩
   cases aH:aT.drop i with
   |nil=>rw[aH]at aj;simp[mm]at aj
   |cons x k=>
   rw[aH]at aj
   refine(oj aw (fP.go (dB.ex cg Zo Zo) Zo) aH s).Zm ?_
   rintro ac bC da ⟨rfl,hl,ey⟩
   have jC:=ey.le
   have eh:Y X bC a1=zu [.str s, .Z ff] 2:=by rw[ey.ab _ Zo (by simp;omega)];exact cS
   have oL:=dl.trans ((ca.of cg).trans ey)
   cases aF:g9 x s with
   |true=>
    rw[aF]at hl
    simp only[mm,aF,ZC]at aj hl ⊢
    simp only[Zf]at aj
    subst aj
    simp only[]at V
    refine et cd.eq_1 (bO eh) @t0 ⟨?_⟩
    refine fh (λbW=>bo X bC da bW (da+1+10)/\Y X bW da=zu (cd x) 7) ⟨dM,bg Zo⟩ ?_
    rintro bW ⟨dJ,fS⟩
    have o9:=fP.go (hl.ex dJ Zo Zo) (by omega:a1<=da+1+10)
    have dF:=oL.trans (ca.of dJ)
    rw[<-(fN aH).2]at V
    rcases gu V with ⟨F,b6,rfl⟩|⟨J3,m7,b6,V⟩
    ·exact((al n Zo).va bW _ _ _ o9 b6).mono (λac T an a=>by obtain⟨E,cD,a,_⟩:=a;cases a) (λac T an a=>a.of dF (λ_ a=>a))
    refine((al n Zo).va bW _ _ _ o9 b6).mono ?_ (λac T an a=>by obtain⟨F,a,_⟩:=a;cases a)
    rintro BF b9 eB ⟨aCy,ie,TL,eG,hz,eu⟩
    cases TL
    have tq:=eu.le
    simp only[ok,Zf]at V
    subst V
    obtain⟨Dp,rfl,K8,_⟩:=eG.ptr
    have dT:Y X b9 da=zu (cd x) 7:=by rw[eu.ab _ Zo (by simp;omega)];exact fS
    have acJ:Y X b9 a1=zu [.str s, .Z ff] 2:=by rw[eu.ab _ Zo (by simp;omega),dJ.ab _ Zo];exact eh
    refine et (bO dT) (bO acJ) cd.eq_1 ⟨?_⟩
    refine g2 (qM _ _) ?_
    refine et (bO dT) (bO acJ) cd.eq_1 ⟨?_⟩
    refine g2 (qM _ _) ?_
    refine⟨_,ie,rfl,cy.lit (q:=1) (cap:=1) (n:=0) (kind:=ff) (at_:=x.at_) (name:=[]) (no:=false) (ty:=dH) (b:=da+1+8) (ii:= .own) (cp:=da+1+6) (a8:=[.ptr Dp 0]) (bg (b:=da+1+8) Zo) ⟨Zo,Zo⟩ ?_ ⟨Zo,Zo⟩ rfl Zo Zo (dk.one (cy.ab (λe z=> ?_) _ _ eG) (λe z=> ?_)), ?_, ?_⟩
    ·simp(disch:=omega) only[aI,bg]<;>rfl
    ·have I:=z.1;have J:=z.2
     simp(disch:=omega) only[aI]
    ·simp only[cQ]at z ⊢;omega
    ·exact hz.ab (zw) (zw)
    ·exact⟨Zo,λe z bZ=>by
      rw[<-(dF.trans eu).ab e z bZ]
      simp(disch:=omega) only[aI]⟩
   |false=>
    rw[aF]at hl
    simp only[mm,aF,Zw,ZA]at aj hl ⊢
    have bF:=zv W
    refine gx cd.eq_1 hc.eq_1 @Bz @bF ⟨?_⟩
    refine⟨_, ?_,W+1,rfl,Zo,a7 t0,a7 w3,bw,hl.ab (zw) (zw), ?_,aj⟩
    ·omega
    ·exact⟨Zo,λb aj bZ=>by rw[<-oL.ab b aj bZ];exact zw⟩
  ·have bK:W=3:=Zo
   subst bK
   simp only[Bp,Z6,ZZ,ps,Zf]at aj
   refine cK ⟨?_⟩
   exact bK _ _ _ ⟨a7 t0,dB,dl,aj.symm⟩
 ·clear aj
  rintro oy c6 a2 ⟨t0,aeI,Oe,rfl⟩
  simp only[]at V
  have KY:=Oe.le
  have VQ:=ay.go aeI KY
  refine ci @t0 ⟨?_⟩
  rcases gu V with ⟨F,I,rfl⟩|⟨left,ei,I,V⟩
  ·exact((al n Zo).part c6 a2 i _ VQ I).mono (λac T an a=>by obtain⟨E,cD,a,_⟩:=a;cases a) (λac T an a=>a.of Oe (λ_ a=>a))
  refine((al n Zo).part c6 a2 i _ VQ I).mono ?_ (λac T an a=>by obtain⟨F,a,_⟩:=a;cases a)
  rintro xb aP aG ⟨E,fC,bs,bN,en,il⟩
  cases bs
  have jm:=il.le
  refine gZ ?_
  refine fK (λm H T aU=>∃left v cD,H.g 0=some (.ptr aK 0)/\H.g 7=some v/\cy X T (cQ j aU) left v/\aR X T aK bP aT cD/\ca X [aK] h j T aU/\nN m left (aT.drop cD)=some r)
   n ⟨left,xb,fC,a7 t0,bw,cy.lift (λe z=>⟨zq z.1,z.2⟩) _ _ bN,en,Oe.trans il,V⟩ ?_
  clear bN en il I V jm t0 aeI Oe KY VQ
  rintro m H aM a1 ⟨left,v,fe,t0,gd,bJ,dB,dl,V⟩
  cases m with
  |zero=>simp[nN]at V
  |succ m=>
  unfold nN at V
  have f7:=dl.le
  have fP:=ay.go dB f7
  refine gZ ?_
  obtain⟨cw,rfl,ka,_⟩:=bJ.ptr
  have ka:=ka.2
  refine ci @t0 ⟨?_⟩
  obtain⟨x,bV,aH,af⟩:=rJ V
  refine(oj aw fP aH _).Zm ?_
  rintro BE aX bf ⟨rfl,gI,dY⟩
  have ip:=dY.le
  have adu:=dl.trans dY
  have cg:=cy.ex (T:=aX) bJ (λe I J=>dY.ab e Zo (by simp;omega)) (Zi _) (Zi _)
  rcases af with ⟨aF,V⟩|⟨aF,V⟩
  ·rw[aF]at gI ⊢
   simp only[ZC]at gI ⊢
   rw[<-(fN aH).2]at V
   simp only[]at V
   refine cT cd.eq_1 @t0 ⟨?_⟩
   refine fh (λbW=>bo X aX bf bW (bf+1)/\Y X bW bf=zu (cd x) 7) ⟨dM,bg Zo⟩ ?_
   rintro bW ⟨dJ,fS⟩
   have o9:=fP.go (gI.ex dJ Zo Zo) (by omega:a1<=bf+1)
   obtain⟨e,m7,KK,Lp⟩:=rJ V
   refine(oj aw o9 KK _).Zm ?_
   rintro ah4 b9 eB ⟨rfl,hz,eu⟩
   have tq:=eu.le
   have dT:Y X b9 bf=zu (cd x) 7:=by rw[eu.ab _ Zo (by simp;omega)];exact fS
   have vS:=(adu.trans (ca.of dJ)).trans eu
   have eG:=cy.ex (T:=b9) cg (λe I J=>by rw[eu.ab e Zo (by simp;omega),dJ.ab e Zo]) (Zi _) (Zi _)
   have n6:andThen (iU 1 (aT.drop (if g9 e [110,111,116]then fe+1+1 else fe+1))) (λc k=>nN m (.mk 6 x.at_ c.text (g9 e [110,111,116]) dH 0 [left]) k)=some r:=by
    rcases Lp with ⟨Uy,n6⟩|⟨Uy,n6⟩
    ·simp only[Uy,ZC];rw[(fN KK).2];exact n6
    ·simp only[Uy,Zw,ZA];exact n6
   clear V Lp
   generalize (if g9 e [110,111,116]then fe+1+1 else fe+1)=ie at n6 hz
   generalize (if g9 e [110,111,116]then e else hc)=WM
   generalize g9 e [110,111,116]=no at n6
   refine gx cd.eq_1 (bO dT) @t0 @gd ⟨?_⟩
   refine fh (λcB=>bo X b9 eB cB (eB+1+11)/\Y X cB (eB+1+7)=zu [.ptr cw 0] 1) ⟨dM,bg Zo⟩ ?_
   rintro cB ⟨eW,eY⟩
   have nH:=fP.go (hz.ex eW Zo Zo) (by omega:a1<=eB+1+11)
   cases tl:aT.drop ie with
   |nil=>rw[tl]at n6;simp[iU,andThen]at n6
   |cons c mE=>
   rw[tl]at n6
   simp only[iU]at n6
   refine(Df aw nH.a2 nH.par nH.bM nH.ht nH.g8 nH.many (fN tl).1 1).mono ?_ ?_
   ·rintro u8 dX iD ⟨aD,rfl,yt,gG⟩
    have CE:=gG.le
    rw[Zu aD]at n6
    simp only[andThen,ok]at n6
    have h7:Y X dX bf=zu (cd x) 7:=by rw[gG.ab _ Zo (by simp;omega),eW.ab _ Zo];exact dT
    have aqy:Y X dX (eB+1+7)=zu [.ptr cw 0] 1:=by rw[gG.ab _ Zo (by simp;omega)];exact eY
    refine cT cd.eq_1 (bO h7) ⟨?_⟩
    refine g2 (qM _ _) ?_
    refine⟨m,Zo,_, .ptr (eB+1+9) 0,ie+1,a7 t0,bw,cy.lit (q:=1) (cap:=1) (n:=0) (kind:=6) (at_:=x.at_) (name:=c.text) (no:=no) (ty:=dH) (b:=eB+1+9) (ii:= .own) (cp:=eB+1+7) (a8:=[.ptr cw 0]) (bg (b:=eB+1+9) Zo) ⟨Zo,Zo⟩ ?_ ⟨Zo,Zo⟩ rfl Zo Zo (dk.one (cy.ab (λe z=> ?_) _ _ eG) (λe z=> ?_)), ?_, ?_,by rw[(fN tl).2];exact n6⟩
    ·simp(disch:=omega) only[aI];exact aqy
    ·have I:=z.1;have J:=z.2
     simp(disch:=omega) only[aI]
     rw[gG.ab e Zo (by simp;omega),eW.ab e Zo]
    ·simp only[cQ]at z ⊢;omega
    ·exact yt.ab (zw) (zw)
    ·exact⟨Zo,λe z bZ=>by
      rw[<-((vS.trans (ca.of eW)).trans gG).ab e z bZ]
      simp(disch:=omega) only[aI]⟩
   ·rintro u8 dX iD ⟨aD,rfl,gG⟩
    rw[Zg aD]at n6
    simp only[andThen,bad,Zf]at n6
    subst n6
    exact⟨_,rfl,rfl,(vS.trans (ca.of eW)).trans gG⟩
  ·rw[aF]at gI ⊢
   simp only[Zw,ZA]at gI ⊢
   simp only[ok,Zf]at V
   subst V
   refine et cd.eq_1 hc.eq_1 @gd ⟨?_⟩
   refine⟨left,fe,rfl,cy.ex cg (λe I J=> ?_) (Zi _) Zo,gI.ab (zw) (zw), ?_⟩
   ·simp(disch:=omega) only[aI]
   ·exact⟨Zo,λb aj bZ=>by rw[<-adu.ab b aj bZ];exact zw⟩
end
end
end Go.Proofs.YtpfajohmofnkfaaGreatDoor

