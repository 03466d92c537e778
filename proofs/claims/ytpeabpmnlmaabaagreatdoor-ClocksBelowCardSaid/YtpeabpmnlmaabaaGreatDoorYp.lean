/- Part of the proof of the last text; no conditions -/
import Derived.Test.YtpeabpmnlmaabaaGreatDoorYo
import Derived.Test.YtpeabpmnlmaabaaGreatDoorRows
import Derived.ProofKit
set_option maxHeartbeats 8000000
set_option linter.all false
namespace Go.Proofs.YtpeabpmnlmaabaaGreatDoor
open Go.bd Go.aT
noncomputable section
structure na(I:cV)(p:D)(kP:Nat)(aS:D)(len z gH:Nat)(b6:D)(ok rd:Bool):Prop where
 t3:I.g 3=some p
 t5:I.g 5=some (.ptr kP 0)
 t65:I.g 65=some aS
 t66:I.g 66=some (.Z (len:Int))
 t67:I.g 67=some (.Z (z:Int))
 t10:I.g 10=some (.Z (z:Int))
 t11:I.g 11=some (.ptr gH 0)
 t12:I.g 12=some b6
 t8:I.g 8=some (.bool ok)
 t9:I.g 9=some (.bool rd)
def na.set{I:cV}{p:D}{kP:Nat}{aS:D}{len z gH:Nat}{b6:D}{ok rd:Bool}(a:na I p kP aS len z gH b6 ok rd){i:Nat}{v:D}(aG:[3,5,65,66,67,10,11,12,8,9].contains i=false:=by rfl):na (Z I i v) p kP aS len z gH b6 ok rd:=by
 simp only[List.contains_eq_mem,Zt,ZJ,Ym,Zb,YS]at aG
 constructor<;>rw[vk,Zh Zo]<;>first|exact a.t3|exact a.t5|exact a.t65|exact a.t66|exact a.t67|exact a.t10|exact a.t11|exact a.t12|exact a.t8|exact a.t9
def na.ok{I:cV}{p:D}{kP:Nat}{aS:D}{len z gH:Nat}{b6:D}{ok rd:Bool}(a:na I p kP aS len z gH b6 ok rd)(b:Bool):na (Z I 8 (.bool b)) p kP aS len z gH b6 b rd:=by
 constructor<;>rw[vk]<;>first|exact a.t3|exact a.t5|exact a.t65|exact a.t66|exact a.t67|exact a.t10|exact a.t11|exact a.t12|exact a.t9|rfl
def na.rd{I:cV}{p:D}{kP:Nat}{aS:D}{len z gH:Nat}{b6:D}{ok rd:Bool}(a:na I p kP aS len z gH b6 ok rd)(b:Bool):na (Z I 9 (.bool b)) p kP aS len z gH b6 ok b:=by
 constructor<;>rw[vk]<;>first|exact a.t3|exact a.t5|exact a.t65|exact a.t66|exact a.t67|exact a.t10|exact a.t11|exact a.t12|exact a.t8|rfl
def D7{α:Type}{f:α->Bool}{l:List α}{i:Nat}{x:α}(a:l[i]? =some x):(l.take (i+1)).all f=((l.take i).all f&&f x):=by
 rw[ZQ,a,List.all_append];simp
section
variable{X:cl}{h S' aI aM:Q af}{j an aO aZ:Nat}{P nE:Nat->Prop}
def aqE{am:List Go.aT.Node}{P eO:Nat->Prop}{p ac:D}(a:DP X h am P eO p ac):∃v,ac= .tuple [v, .agg [.Z (k7 am).1, .Z (k7 am).2]]:=by
 unfold DP at a
 by_cases ch:(k7 am).1=0
 ·rw[Zr ch]at a
  obtain⟨v,rfl,_⟩:=a
  have R:(k7 am).2=0:=by
   unfold k7 at ch ⊢
   by_cases ax:(re am).1≠0
   ·rw[Zr ax]at ch;exact absurd ch ax
   ·rw[Zh ax]at ch ⊢
    cases b0:JE am with
    |some H=>rw[b0]at ch;exact absurd ch (show ¬(26:Int)=0 by decide)
    |none=>rfl
  exact⟨v,by rw[ch,R]⟩
 ·rw[Zh ch]at a
  exact⟨_,a⟩
def arI(H b c d:Int):i2 X h 50 26 (.agg [.Z H, .Z b]) (.agg [.Z c, .Z d])=(match some (u7 H c)with|some true=>(match some (u7 b d)with|some true=>some true|some false=>some false|none=>none)|some false=>some false|none=>none):=Zk
def arF(H b:Int):c5 X h .eql 26 false (.agg [.Z H, .Z b]) (.agg [.Z H, .Z b])=some .zT:=by
 have a:c5 X h .eql 26 false (.agg [.Z H, .Z b]) (.agg [.Z H, .Z b])=(match i2 X h 50 26 (.agg [.Z H, .Z b]) (.agg [.Z H, .Z b])with|some b=>nI b|none=>none):=Zk
 rw[a,arI,CO,CO]
 simp
set_option maxRecDepth 100000 in
def ayz(au:iY X)(d6:JV X)(gS:xh X)(aeZ:sc X)(ae0:xi X)(ey:DS X)(AN:(o X).hB 7 []=some .zT){a0 bb:D}{qc s:aY}(aE:(o X).a2<=j)(aC:gz a0=some (.Z (qc.length:Int)))(aD:s.length<=5000)(ag:∀c∈s,c<256)
 (g2:ur X h 1 a0 none (some (.Z (min (qc.length:Int) 5000))) none=some bb)(pT:gz bb=some (.Z (s.length:Int)))(tJ:∀S' aN,ba X h j S' aN->BX X S' bb=some (.str s)):
 aU X 3 [a0] h j (λac S' an=>ac= .zT/\ba X h j S' an) (λ_ _ _=>False):=by
 refine zz au.todj (amW X) ?_
 rw[amX]
 unfold aaM
 refine dI @aC @azt @g2 ⟨?_⟩
 refine(aAL au d6 gS aD ag aE pT tJ).Zm ?_
 rintro ac aI aO ⟨E9,bH⟩
 have jJ:=bH.le
 cases Cx:Dm s with
 |error kq=>
  rw[Cx]at E9
  obtain⟨z,H⟩:=kq
  have U8:=aAP aD Cx
  have bg:ac= .tuple [.cJ, .agg [.Z z, .Z H]]:=E9
  subst bg
  have bm:decide (z≠0)=true:=by simp[U8]
  refine cd @bm ⟨?_⟩
  refine xB AN ?_
  refine cx ⟨?_⟩
  exact⟨rfl,Zo,λe B=>by simp(disch:=omega) only[aB];exact bH.aa e B⟩
 |ok am=>
  rw[Cx]at E9
  obtain⟨v,rfl,E8⟩:=E9
  obtain⟨wC,dQ,pU⟩:=aAQ Cx
  obtain⟨aFh,mQ⟩:=Mr pU
  obtain⟨b,aS,cO,bK,rfl,O4,b3,cB,kG⟩:=id E8
  have x1:=O4.2
  have bm:decide ((0:Int)≠0)=false:=rfl
  refine cI @bm @To ⟨?_⟩
  refine eN (λaM=>ba X aI aO aM (aO+1)) dz ?_
  intro aM bx
  refine(aqy (j:=aO+1) (P:=dr j aO) au d6.err aeZ ae0 ey Zo (E8.aa (bu:=dr j aO) (λe B=>bx.aa e B.2) (λ_ a=>a)) (λe B=>⟨zs B.1,zs B.2⟩) wC dQ pU).Zm ?_
  rintro ac a1 bi ⟨rfl,ck⟩
  have iO:=ck.le
  have qC:ba X aI aO a1 bi:=bx.trans ck
  have rG:MT am=if (k7 am).1≠0 then k7 am else so am.length 0 am:=rfl
  generalize MT am=rc at rG ⊢
  obtain⟨M6,ajK⟩:=rc
  simp only
  refine cx ⟨?_⟩
  refine eN (λbA=>(∃c,U X bA bi=some (.cells c 2 .own)/\c.get 0=some (.Z M6)/\c.get 1=some (.Z ajK))/\∀e,e<bi->U X bA e=U X a1 e) ⟨⟨_,by rw[a7 Zo];rfl,by exact oL _ _ _,by exact oM _ _ _⟩,λe B=>zy⟩ ?_
  rintro bA ⟨⟨nJ,dg,Ed,acR⟩,dJ⟩
  have lm:∀e,dr j aO e->U X bA e=U X aI e:=λe B=>by have:=B.2;rw[dJ e Zo,qC.aa e this]
  refine(acX (j:=bi+1) (P:=dr j aO) au d6.err aeZ ae0 ey Zo (E8.aa (bu:=dr j aO) lm (λ_ a=>a)) (λe B=>⟨zs B.1,zs B.2⟩) wC dQ pU).Zm ?_
  rintro ac bM bX ⟨ij,dC⟩
  obtain⟨lb,rfl⟩:=aqE ij
  clear ij
  have ik:=dC.le
  rw[<-dC.aa _ Zo]at dg
  have vb:∀e,dr j aO e->U X bM e=U X aI e:=λe B=>by have:=B.2;rw[dC.aa e Zo,lm e B]
  have aeG:∀e,e<j->U X bM e=U X h e:=λe B=>by rw[dC.aa e Zo,dJ e Zo,qC.aa e Zo];exact bH.aa e B
  have Uy:(k7 am).1=0->(re am).1=0:=λa=>by
   unfold k7 at a
   by_cases ax:(re am).1≠0
   ·rw[Zr ax]at a;exact absurd a ax
   ·simpa using ax
  generalize k7 am=Ba at rG Uy ⊢
  obtain⟨B5,rk⟩:=Ba
  simp only at rG Uy ⊢
  have aGy:cG X bM 2 (.ptr bi 0)=some (.agg [.Z M6, .Z ajK]):=by rw[iG,bc dg,bc dg,Ed,acR];rfl
  by_cases AC:B5=0
  ·subst AC
   rw[Zh Zs]at rG
   have auO:=Uy rfl
   have tG:=(ap4 auO wC am.length am 0 (λ_ a=>a))
   rw[<-rG]at tG
   simp only at tG
   have d0:=cB.len
   have hU:=cB.many
   have j6:=kG.wide
   rw[j6.1]at d0 hU
   have apR:aP X bM (.ptr b 0)=some aS:=zD (vb b O4) b3
   refine dI @bm @apR @d0 ⟨?_⟩
   generalize f9:Go.bd.bj X _ bX _=bZ
   have c3:∀e,e<bX->U X bZ e=U X bM e:=λe B=>by rw[<-f9];exact zy
   clear f9
   rw[<-c3 _ Zo]at dg
   have ph:∀e,dr j aO e->U X bZ e=U X aI e:=λe B=>by have:=B.2;rw[c3 e Zo,vb e B]
   refine fh (λm I S' aN=>∃(z:Nat) (ok rd:Bool),I.g 3=some (.ptr b 0)/\I.g 5=some (.ptr bi 0)/\I.g 8=some (.bool ok)/\I.g 9=some (.bool rd)/\I.g 65=some aS/\I.g 66=some (.Z (am.length:Int))/\I.g 67=some (.Z (z:Int))/\z+m=am.length/\ba X bZ (bX+1) S' aN/\Dh am.length 0 am=(ok&&Dh am.length z (am.drop z))/\am.any vj=(rd||(am.drop z).any vj))
    am.length ⟨0,true,false,a8,a8,a8,a8,a8,a8,fq,Zo,ba.refl _ _,Zs,Zs⟩ ?_
   rintro m I ci dV ⟨z,ok,rd,t3,t5,t8,t9,t65,t66,t67,aFg,ez,fs,CB⟩
   have nj:=ez.le
   have qP:∀e,dr j aO e->U X ci e=U X aI e:=λe B=>by have:=B.2;rw[ez.aa e Zo,ph e B]
   cases m with
   |zero=>
    have d:=zt z am.length
    rw[ZC Zo]at fs CB
    rw[show Dh am.length z []=true from rfl,YO]at fs
    rw[List.any_nil,Bool.or_false]at CB
    rw[fs,CB]at tG
    rw[<-ez.aa _ Zo]at dg
    have aEv:decide ((0:Int)=0)=true:=rfl
    have akw:decide ((27:Int)=0)=false:=rfl
    have akx:decide ((27:Int)=27)=true:=rfl
    have akt:decide ((25:Int)=0)=false:=rfl
    have akv:decide ((25:Int)=27)=false:=rfl
    have aku:decide ((25:Int)=25)=true:=rfl
    have fin:∀e,e<j->U X ci e=U X h e:=λe B=>by rw[ez.aa e Zo,c3 e Zo];exact aeG e B
    have UH:(M6=0/\ok=true/\rd=false)\/(M6=27/\(ok=false\/ok=true/\rd=true))\/(M6=25/\rd=true):=by
     rcases tG.2 with a|a|a
     ·exact .inl ⟨a,tG.1.1 a⟩
     ·refine .inr (.inl ⟨a, ?_⟩)
      cases b0:ok with
      |false=>exact .inl rfl
      |true=>
       cases Y:rd with
       |true=>exact .inr ⟨rfl,rfl⟩
       |false=>have:=tG.1.2 ⟨b0,Y⟩;omega
     ·exact .inr (.inr a)
    clear tG fs CB
    rcases UH with ⟨rfl,rfl,rfl⟩|⟨rfl,(rfl|⟨rfl,rfl⟩)⟩|⟨rfl,rfl⟩
    ·refine d9 @t67 @t66 @d @t5 (bc dg) @Ed (Za @t8 (Za @t9 (Za @aEv @aqc))) ⟨?_⟩
     refine xB AN ?_
     refine cx ⟨?_⟩
     exact⟨rfl,Zo,fin⟩
    ·refine d9 @t67 @t66 @d @t5 (bc dg) @Ed (Za @t8 (Za @t9 (Za @akw (Za @akx @NV)))) ⟨?_⟩
     refine xB AN ?_
     refine cx ⟨?_⟩
     exact⟨rfl,Zo,fin⟩
    ·refine d9 @t67 @t66 @d @t5 (bc dg) @Ed (Za @t8 (Za @t9 (Za @akw (Za @akx @NV)))) ⟨?_⟩
     refine xB AN ?_
     refine cx ⟨?_⟩
     exact⟨rfl,Zo,fin⟩
    ·cases ok with
     |false=>
      refine d9 @t67 @t66 @d @t5 (bc dg) @Ed (Za @t8 (Za @t9 (Za @akt (Za @akv (Za @aku @NV))))) ⟨?_⟩
      refine xB AN ?_
      refine cx ⟨?_⟩
      exact⟨rfl,Zo,fin⟩
     |true=>
      refine d9 @t67 @t66 @d @t5 (bc dg) @Ed (Za @t8 (Za @t9 (Za @akt (Za @akv (Za @aku @NV))))) ⟨?_⟩
      refine xB AN ?_
      refine cx ⟨?_⟩
      exact⟨rfl,Zo,fin⟩
   |succ m=>
    have d:=zu z am.length
    have bz:=zx z
    obtain⟨g,EX⟩:=zv am z
    have tQ:=Zl EX
    have aF:am.drop z=g::am.drop (z+1):=by
     obtain⟨ae,B⟩:=Zc.1 EX
     rw[Zq ae,B]
    rw[aF,Dh, <-Yz]at fs
    rw[aF,List.any_cons, <-Bool.or_assoc]at CB
    obtain⟨row,e9,jK⟩:=kG.get z g EX
    have dp:=cB.fx z (by rw[j6.1];omega)
    have hz:=(cB.aa qP).row Zd e9
    have jL:=jK.jf
    have agi:=jK.aa (S':=ci) (bu:=dr j aO) qP (λ_ a=>a)
    have AR:=(mQ g tQ).vars
    have Vp:=aij g
    rw[Ep]at Vp
    simp only[oE]at Vp
    have ru:=wC g tQ
    obtain⟨c7,dv,k9,eH,bY,co,cY,fM,aGM,rfl,k1,ko,ov,jo,e8⟩:=id agi
    have agI:=k1.len
    have qK:=ko.len
    have qL:=jo.len
    have sJ:=e8.wide
    have Cz:=jo.many
    rw[Zi]at agI qK
    rw[sJ.1]at qL Cz
    refine gh @t67 @t66 (Za @t65 @d) ⟨?_⟩
    refine gi ?_
    refine gh @t67 @t66 (Za @t65 @d) ⟨?_⟩
    refine gi ?_
    refine gh @t67 @t66 (Za @t65 (Za @d (Za @dp @hz))) ⟨?_⟩
    refine f8 (iH (z:=6) (b:=dV) (W:=0) (n:=6) (c:=Q.ofList [.str [], .Z 0, .aV, .aV, .aV, .aV] 0 .nil) (a7 Zo) Zo rfl Zd Zd jL) ?_
    generalize kZ:Go.bd.bj X _ dV _=dk
    have fH:U X dk dV=zw [.str g.name, .Z g.at_,c7,dv,k9,eH] 6:=by rw[<-kZ,a7 Zo];rfl
    have gp:∀e,e<dV->U X dk e=U X ci e:=λe B=>by rw[<-kZ];exact zy
    clear kZ
    refine oj (bc fH) ⟨?_⟩
    refine(QG (j:=dV+1) au.todj Zo (λe B=>zs B.2) (agi.aa (bu:=dr j aO) (λe B=>gp e (zs B.2)) (λ_ a=>a)) (by rw[Ep];simp only[oE];omega)).Zm ?_
    rintro ac dt fc ⟨b6,k3,q1,dW,rfl,kp,ya,cN,cA,eb,fW,gT⟩
    have pc:=gT.le
    have aGa:=kp.1
    have VV:=kp.2
    have avJ:=ya.2
    rw[<-gT.aa _ Zo]at fH
    have hg:∀e,e<dV->U X dt e=U X ci e:=λe B=>by rw[gT.aa e Zo,gp e B]
    have Qc:∀e,dr j aO e->U X dt e=U X ci e:=λe B=>hg e (zs B.2)
    have agT:i1 X dt (λe=>e<fc) (.ptr b6 0) (ec g):=⟨b6,k3,rfl,VV,avJ,cN,cA⟩
    have ai6:dL X dt (λe=>e<fc) dW q1 1 (e3 (kL g)):=fW.lift λe B=>B.2
    clear cN cA fW kp ya
    have LH:QI am.length z g=((g.d4.all λd=>decide (d.on=[]))&&(g.out.all λd=>decide (d.on=[])||decide (z+1=am.length))&&g.eqs.all (wP (ec g))):=rfl
    have aws:vj g=(kL g).any (ve (ec g) (kL g).length):=rfl
    rw[LH]at fs
    rw[aws]at CB
    generalize ec g=t at*
    generalize kL g=ea at*
    refine Ez (bc fH) @agI ⟨?_⟩
    refine iR (λI S' aN=>na I (.ptr b 0) bi aS am.length z dV (.ptr b6 0) (ok&&g.d4.all λd=>decide (d.on=[])) rd/\ba X dt fc S' aN) (λS bE=> ?_) ?_
    ·refine fh (λm I S' aN=>∃(S:Nat) (W:Bool),na I (.ptr b 0) bi aS am.length z dV (.ptr b6 0) W rd/\I.g 75=some c7/\I.g 76=some (.Z (g.d4.length:Int))/\I.g 77=some (.Z (S:Int))/\S+m=g.d4.length/\ba X dt fc S' aN/\W=(ok&&(g.d4.take S).all λd=>decide (d.on=[])))
      g.d4.length ⟨0,ok,⟨aL t3,aL t5,aL t65,aL t66,aL t67,a8,a8,a8,aL t8,aL t9⟩,a8,a8,fq,Zo,ba.refl _ _,Zs⟩ ?_
     rintro m I fR dT ⟨S,W,dA,XU,Ro,Rp,Pq,kY,bf⟩
     have Ik:=kY.le
     cases m with
     |zero=>
      have d:=zt S g.d4.length
      rw[ZA Zo]at bf
      subst bf
      refine dI @Rp @Ro @d ⟨?_⟩
      exact bE _ _ _ ⟨dA.set,kY⟩
     |succ m=>
      have d:=zu S g.d4.length
      have bz:=zx S
      obtain⟨ay,nO⟩:∃d,g.d4[S]? =some d:=⟨_,Ze Zo⟩
      have dp:=k1.fx S (by rw[Zi];omega)
      have e9:cG X fR 8 (.ptr bY (S*8))=some (.agg [.str ay.name, .Z ay.at_, .bool ay.ty.b, .bool ay.ty.s, .Z ay.ty.w, .str ay.on, .Z ay.et, .bool ay.no]):=(k1.aa (λe B=>by rw[kY.aa e (zs B.2),Qc e B])).row (i:=S) (r:=d2 ay) Zd (by rw[Zu,nO];rfl)
      have JB:=dA.t8
      refine hu @Rp @Ro @XU @d @dp @e9 ⟨?_⟩
      generalize wa:Go.bd.bj X _ dT _=mh
      have kC:U X mh dT=zw [.str ay.name, .Z ay.at_, .bool ay.ty.b, .bool ay.ty.s, .Z ay.ty.w, .str ay.on, .Z ay.et, .bool ay.no] 8:=by rw[<-wa,a7 Zo];rfl
      have lN:∀e,e<dT->U X mh e=U X fR e:=λe B=>by rw[<-wa];exact zy
      clear wa
      have rq:ba X dt fc mh (dT+1):=⟨Zo,λe B=>by rw[lN e Zo];exact kY.aa e B⟩
      cases W with
      |false=>
       refine dI @JB @Rp @bz ⟨?_⟩
       exact⟨m,Zo,S+1,false,((dA.set.set).ok false).set,aL XU,aL Ro,a8,Zo,rq,by rw[D7 nO, <-Yz, <-bf];rfl⟩
      |true=>
       refine fI @JB (bc kC) @Rp @bz ⟨?_⟩
       exact⟨m,Zo,S+1,_,((dA.set.set).ok _).set,aL XU,aL Ro,a8,Zo,rq,by rw[D7 nO, <-Yz, <-bf];rfl⟩
    rintro I fR dT ⟨dA,kY⟩
    generalize avY:(ok&&g.d4.all λd=>decide (d.on=[]))=QE at dA
    have Bj:=dA.t11
    have Ik:=kY.le
    have f1:=fH
    rw[<-kY.aa _ Zo]at f1
    refine gh @Bj (bc f1) @qK ⟨?_⟩
    refine iR (λI S' aN=>na I (.ptr b 0) bi aS am.length z dV (.ptr b6 0) (QE&&g.out.all λd=>decide (d.on=[])||decide (z+1=am.length)) rd/\ba X dt fc S' aN) (λS bE=> ?_) ?_
    ·refine fh (λm I S' aN=>∃(S:Nat) (W:Bool),na I (.ptr b 0) bi aS am.length z dV (.ptr b6 0) W rd/\I.g 89=some dv/\I.g 90=some (.Z (g.out.length:Int))/\I.g 91=some (.Z (S:Int))/\S+m=g.out.length/\ba X dt fc S' aN/\W=(QE&&(g.out.take S).all λd=>decide (d.on=[])||decide (z+1=am.length)))
      g.out.length ⟨0,QE,dA.set.set.set,a8,a8,fq,Zo,kY,Zs⟩ ?_
     clear dA Bj
     rintro m I oT p7 ⟨S,W,dA,Rq,Nf,Ng,Pq,qD,bf⟩
     have afZ:=qD.le
     cases m with
     |zero=>
      have d:=zt S g.out.length
      rw[ZA Zo]at bf
      subst bf
      refine dI @Ng @Nf @d ⟨?_⟩
      exact bE _ _ _ ⟨dA.set,qD⟩
     |succ m=>
      have d:=zu S g.out.length
      have bz:=zx S
      obtain⟨ay,nO⟩:∃d,g.out[S]? =some d:=⟨_,Ze Zo⟩
      have dp:=ko.fx S (by rw[Zi];omega)
      have e9:cG X oT 8 (.ptr co (S*8))=some (.agg [.str ay.name, .Z ay.at_, .bool ay.ty.b, .bool ay.ty.s, .Z ay.ty.w, .str ay.on, .Z ay.et, .bool ay.no]):=(ko.aa (λe B=>by rw[qD.aa e (zs B.2),Qc e B])).row (i:=S) (r:=d2 ay) Zd (by rw[Zu,nO];rfl)
      have JB:=dA.t8
      have aDj:=dA.t3
      have aDi:=dA.t10
      refine hu @Ng @Nf @Rq @d @dp @e9 ⟨?_⟩
      generalize wa:Go.bd.bj X _ p7 _=mh
      have kC:U X mh p7=zw [.str ay.name, .Z ay.at_, .bool ay.ty.b, .bool ay.ty.s, .Z ay.ty.w, .str ay.on, .Z ay.et, .bool ay.no] 8:=by rw[<-wa,a7 Zo];rfl
      have lN:∀e,e<p7->U X mh e=U X oT e:=λe B=>by rw[<-wa];exact zy
      clear wa
      have rq:ba X dt fc mh (p7+1):=⟨Zo,λe B=>by rw[lN e Zo];exact qD.aa e B⟩
      cases W with
      |false=>
       refine dI @JB @Ng @bz ⟨?_⟩
       exact⟨m,Zo,S+1,false,((dA.set.set).ok false).set,aL Rq,aL Nf,a8,Zo,rq,by rw[D7 nO, <-Yz, <-bf];rfl⟩
      |true=>
       by_cases jX:ay.on=[]
       ·have iq:decide (ay.on=[])=true:=by simp[jX]
        refine fO @JB (bc kC) @iq @Ng @bz ⟨?_⟩
        exact⟨m,Zo,S+1,_,((dA.set.set).ok _).set,aL Rq,aL Nf,a8,Zo,rq,by rw[D7 nO, <-Yz, <-bf,iq];rfl⟩
       ·have iq:decide (ay.on=[])=false:=by simp[jX]
        have apU:aP X mh (.ptr b 0)=some aS:=by rw[cv,rq.aa b Zo,Qc b O4,qP b O4, <-cv];exact b3
        have cF:bn .sub (.Z (am.length:Int)) (.Z 1)=some (.Z ((am.length:Int) -1)):=wD Zo Zo
        have Ta:decide ((z:Int)=(am.length:Int) -1)=decide (z+1=am.length):=by by_cases a:z+1=am.length<;>simp[a]<;>omega
        refine d9 @JB (bc kC) @iq @aDi @aDj @apU (Za @d0 (Za @cF (Za @Ta (Za @Ng @bz)))) ⟨?_⟩
        exact⟨m,Zo,S+1,_,((dA.set.set).ok _).set,aL Rq,aL Nf,a8,Zo,rq,by rw[D7 nO, <-Yz, <-bf,iq];rfl⟩
    clear dA Bj f1 kY Ik
    rintro I fR dT ⟨dA,kY⟩
    generalize avZ:(QE&&g.out.all λd=>decide (d.on=[])||decide (z+1=am.length))=F3 at dA
    have oK:=dA.t12
    have Ik:=kY.le
    have Xc:=eb
    rw[<-kY.eV _ _ VV]at Xc
    refine oj @oK ⟨?_⟩
    refine(WU (j:=dT) (l:=ea) au.todj Zo Xc (ai6.aa (λe B=>kY.aa e B)) Zo (λe B=>Zo)).Zm ?_
    rintro ac yX ns ⟨⟨aGE,sG⟩,Ar⟩
    have fg:=Ar.le
    have T9:ba X dt fc yX ns:=⟨Zo,λe B=>by rw[Ar.aa e Zo];exact kY.aa e B⟩
    have Vq:=sG.len
    rw[show(e3 ea).length=ea.length from by simp[e3]]at Vq
    refine oj @Vq ⟨?_⟩
    refine iR (λI S' aN=>na I (.ptr b 0) bi aS am.length z dV (.ptr b6 0) F3 (rd||ea.any (ve t ea.length))/\ba X dt fc S' aN) (λS bE=> ?_) ?_
    ·refine fh (λm I S' aN=>∃(S:Nat) (r:Bool),na I (.ptr b 0) bi aS am.length z dV (.ptr b6 0) F3 r/\I.g 113=some ac/\I.g 114=some (.Z (ea.length:Int))/\I.g 115=some (.Z (S:Int))/\S+m=ea.length/\ba X yX ns S' aN/\r=(rd||(ea.take S).any (ve t ea.length)))
      ea.length ⟨0,rd,dA.set.set.set,a8,a8,fq,Zo,ba.refl _ _,Zs⟩ ?_
     clear dA oK
     rintro m I oT p7 ⟨S,r,dA,w6,vp,uv,Pq,qD,Y⟩
     have afZ:=qD.le
     cases m with
     |zero=>
      have d:=zt S ea.length
      rw[ZA Zo]at Y
      subst Y
      refine dI @uv @vp @d ⟨?_⟩
      exact bE _ _ _ ⟨dA.set,Zo,λe B=>by rw[qD.aa e Zo];exact T9.aa e B⟩
     |succ m=>
      have d:=zu S ea.length
      have bz:=zx S
      obtain⟨w,bs⟩:=zv ea S
      have dp:=sG.fx S (by simp[e3];omega)
      have hx:=(sG.aa (λe B=>qD.aa e B.2)).cell S [.str w] 0 (.str w) (by unfold e3;rw[Zu,bs];rfl) rfl
      rw[Z1]at dp
      rw[Z1,ZR]at hx
      have oK:=dA.t12
      have IQ:∀{S':Q af},(∀e,e<ns->U X S' e=U X yX e)->i1 X S' (λe=>e<fc) (.ptr b6 0) t/\aP X S' (.ptr b6 1)=some q1/\dL X S' (λe=>e<fc) dW q1 1 (e3 ea):=λej=>by
       have eY:∀e,e<fc->U X _ e=U X dt e:=λe B=>by rw[ej e Zo];exact T9.aa e B
       exact⟨agT.aa eY (λ_ a=>a),zD (eY b6 VV) eb,ai6.aa eY⟩
      refine gh @uv @vp @d ⟨?_⟩
      refine gi ?_
      refine pN ⟨?_⟩
      refine gi ?_
      refine gh @w6 @uv (Za @oK (Za @dp @hx)) ⟨?_⟩
      refine(vV (j:=p7) au.todj Zo (IQ qD.aa).1 (λe B=>Zo) w).Zm ?_
      rintro rZ J5 gH ⟨rfl,HX⟩
      have af0:=HX.le
      have af8:ve t ea.length w=decide (ea.length<n5 t (ea.length+1) ((t w).getD ld).d.on 0):=rfl
      generalize (t w).getD ld=dX at af8 ⊢
      have nl:ky dX=[.Z dX.kind, .str dX.d.name, .Z dX.d.at_, .bool dX.d.ty.b, .bool dX.d.ty.s, .Z dX.d.ty.w, .str dX.d.on, .Z dX.d.et, .bool dX.d.no, .Z dX.eq, .Z dX.left]:=rfl
      rw[nl]
      refine pN ⟨?_⟩
      generalize EM:Go.bd.bj X _ gH _=sh
      have iA:∃c,U X sh gH=some (.cells c 11 .own)/\∀i,i<11->c.get i=(ky dX)[i]? :=⟨_,by rw[<-EM,a7 Zo];rfl,λi aG=>by
       rw[gQ,Zr ⟨YK _,by simpa[D.cells]using aG⟩,YJ];rfl⟩
      have Qf:∀e,e<gH->U X sh e=U X J5 e:=λe B=>by rw[<-EM];exact zy
      clear EM
      have Ua:ba X yX ns sh (gH+1):=⟨Zo,λe B=>by rw[Qf e Zo,HX.aa e Zo];exact qD.aa e B⟩
      refine iR (λI S' aN=>na I (.ptr b 0) bi aS am.length z dV (.ptr b6 0) F3 r/\I.g 113=some ac/\I.g 114=some (.Z (ea.length:Int))/\I.g 115=some (.Z (S:Int))/\I.g 19=some (.Z ((n5 t (ea.length+1) dX.d.on 0:Nat):Int))/\ba X yX ns S' aN) (λaxT Lv=> ?_) ?_
      ·refine fh (λm I S' aN=>∃(st vu:Nat) (r2:c8),na I (.ptr b 0) bi aS am.length z dV (.ptr b6 0) F3 r/\I.g 113=some ac/\I.g 114=some (.Z (ea.length:Int))/\I.g 115=some (.Z (S:Int))/\I.g 19=some (.Z (st:Int))/\I.g 20=some (.ptr vu 0)/\ns<=vu/\vu<aN/\(∃c,U X S' vu=some (.cells c 11 .own)/\∀i,i<11->c.get i=(ky r2)[i]?)/\st+m=ea.length+1/\n5 t (ea.length+1) dX.d.on 0=n5 t m r2.d.on st/\ba X yX ns S' aN)
        (ea.length+1) ⟨0,gH,dX,dA.set.set.set.set,aL w6,aL vp,aL uv,fq,a8,Zo,Zo,iA,Zo,rfl,Ua⟩ ?_
       clear dA w6 vp uv oK
       rintro sS I G9 A2 ⟨st,vu,r2,dA,w6,vp,uv,JG,Nd,aGf,aw3,⟨aEN,vW,afF⟩,dd,CH,ol⟩
       have af1:=ol.le
       have oK:=dA.t12
       have ma:aP X G9 (.ptr vu 6)=some (.str r2.d.on):=by rw[bc vW,afF 6 Zo];rfl
       by_cases jX:r2.d.on=[]
       ·have cT:decide (r2.d.on≠[])=false:=by simp[jX]
        have kE:n5 t sS r2.d.on st=st:=by
         cases sS with
         |zero=>rfl
         |succ sS=>rw[n5,Zr jX]
        refine dI @Nd @ma @cT ⟨?_⟩
        exact Lv _ _ _ ⟨dA.set,aL w6,aL vp,aL uv,by refine xN ⟨?_⟩;rw[JG,CH,kE],ol⟩
       ·have cT:decide (r2.d.on≠[])=true:=by simp[jX]
        refine fO @Nd @ma @cT @JG @oK ⟨?_⟩
        refine(WU (j:=A2) (l:=ea) au.todj Zo (IQ ol.aa).2.1 (IQ ol.aa).2.2 Zo (λe B=>Zo)).Zm ?_
        rintro aj2 D0 jM ⟨⟨as2,Ih⟩,uV⟩
        have af2:=uV.le
        have wn:=Ih.len
        rw[show(e3 ea).length=ea.length from by simp[e3]]at wn
        rw[<-uV.aa _ aw3]at vW
        have Uc:ba X yX ns D0 jM:=ol.trans (uV.j9 Zo)
        cases sS with
        |zero=>
         have cy:decide ((st:Int)<=(ea.length:Int))=false:=by simp only[Zb];omega
         refine cI @wn @cy ⟨?_⟩
         exact Lv _ _ _ ⟨dA.set,aL w6,aL vp,aL uv,by refine xN ⟨?_⟩;rw[JG,CH];rfl,Uc⟩
        |succ sS=>
         have cy:decide ((st:Int)<=(ea.length:Int))=true:=by simp only[Zg];omega
         have cF:=zx st
         have ayo:aP X D0 (.ptr vu 6)=some (.str r2.d.on):=by rw[bc vW,afF 6 Zo];rfl
         have oy:n5 t (sS+1) r2.d.on st=n5 t sS (eA t r2.d.on).1 (st+1):=by rw[n5,Zh jX]
         rw[oy]at CH
         refine fO @wn @cy @oK @Nd @ayo ⟨?_⟩
         refine(vV (j:=jM) au.todj Zo (IQ Uc.aa).1 (λe B=>Zo) r2.d.on).Zm ?_
         rintro aGW D1 QA ⟨rfl,Ud⟩
         have aFs:=Ud.le
         rw[<-Ud.aa _ Zo]at vW
         have E6:(eA t r2.d.on).1=((t r2.d.on).getD ld).d.on:=rfl
         rw[E6]at CH
         generalize (t r2.d.on).getD ld=kx at CH ⊢
         have aw7:ky kx=[.Z kx.kind, .str kx.d.name, .Z kx.d.at_, .bool kx.d.ty.b, .bool kx.d.ty.s, .Z kx.d.ty.w, .str kx.d.on, .Z kx.d.et, .bool kx.d.no, .Z kx.eq, .Z kx.left]:=rfl
         rw[aw7]
         refine oj @Nd ⟨?_⟩
         generalize Ux:Go.bd.bj X D1 vu _=D2
         have gv:∃c,U X D2 vu=some (.cells c 11 .own)/\∀i,i<11->c.get i=(ky kx)[i]? :=⟨_,by rw[<-Ux,a7 Zo],λi aG=>by
          rw[gQ,Zr ⟨YK _,by simpa[D.cells]using aG⟩,YJ];rfl⟩
         have ayd:∀e,e≠vu->U X D2 e=U X D1 e:=λe B=>by rw[<-Ux,aB Zo B]
         clear Ux
         obtain⟨acY,gv,wm⟩:=gv
         have ahF:cG X D2 11 (.ptr vu 0)=some (.agg [.Z kx.kind, .str kx.d.name, .Z kx.d.at_, .bool kx.d.ty.b, .bool kx.d.ty.s, .Z kx.d.ty.w, .str kx.d.on, .Z kx.d.et, .bool kx.d.no, .Z kx.eq, .Z kx.left]):=by
          rw[CZ,bc gv,bc gv,bc gv,bc gv,bc gv,bc gv,bc gv,bc gv,bc gv,bc gv,bc gv,wm 0 Zo,wm (0+1) Zo,wm (0+2) Zo,wm (0+3) Zo,wm (0+4) Zo,wm (0+5) Zo,wm (0+6) Zo,wm (0+7) Zo,wm (0+8) Zo,wm (0+9) Zo,wm (0+10) Zo]
          rfl
         refine fI @Nd @ahF @JG @cF ⟨?_⟩
         generalize EN:Go.bd.bj X _ QA _=xn
         have atd:∃c,U X xn QA=some (.cells c 11 .own)/\∀i,i<11->c.get i=(ky kx)[i]? :=⟨_,by rw[<-EN,a7 Zo];rfl,λi aG=>by
          rw[gQ,Zr ⟨YK _,by simpa[D.cells]using aG⟩,YJ];rfl⟩
         have Qh:∀e,e<QA->U X xn e=U X D2 e:=λe B=>by rw[<-EN];exact zy
         clear EN
         exact⟨sS,Zo,st+1,QA,kx,dA.set.set.set.set,aL w6,aL vp,aL uv,a8,a8,Zo,Zo,atd,Zo,CH,Zo,λe B=>by rw[Qh e Zo,ayd e Zo,Ud.aa e Zo];exact Uc.aa e B⟩
      clear dA w6 vp uv oK
      rintro I G9 A2 ⟨dA,w6,vp,uv,JG,ol⟩
      have af1:=ol.le
      have oK:=dA.t12
      have Bl:=dA.t9
      have o9:∀aj:Bool,aj=(r||ve t ea.length w)->aj=(rd||(ea.take (S+1)).any (ve t ea.length)):=λaj b0=>by
       rw[b0,Y,ZQ,bs,List.any_append,Bool.or_assoc];simp
      cases r with
      |true=>
       refine dI @Bl @uv @bz ⟨?_⟩
       exact⟨m,Zo,S+1,true,(dA.rd true).set,aL w6,aL vp,a8,Zo,ol,o9 _ rfl⟩
      |false=>
       refine dI @Bl @JG @oK ⟨?_⟩
       refine(WU (j:=A2) (l:=ea) au.todj Zo (IQ ol.aa).2.1 (IQ ol.aa).2.2 Zo (λe B=>Zo)).Zm ?_
       rintro aj2 D0 jM ⟨⟨as2,Ih⟩,uV⟩
       have af2:=uV.le
       have wn:=Ih.len
       rw[show(e3 ea).length=ea.length from by simp[e3]]at wn
       have avl:decide ((ea.length:Int)<((n5 t (ea.length+1) dX.d.on 0:Nat):Int))=ve t ea.length w:=by rw[af8];exact decide_eq_decide.2 Zo
       refine fI @wn @avl @uv @bz ⟨?_⟩
       exact⟨m,Zo,S+1,_,(dA.rd _).set,aL w6,aL vp,a8,Zo,ol.trans (uV.j9 Zo),o9 _ Zs⟩
    clear dA oK Xc kY Ik sG Vq T9 Ar fg
    rintro I fR dT ⟨dA,kY⟩
    generalize aF4:(rd||ea.any (ve t ea.length))=Q5 at dA CB
    have Bj:=dA.t11
    have Ik:=kY.le
    have f1:=fH
    rw[<-kY.aa _ Zo]at f1
    refine gh @Bj (bc f1) @qL ⟨?_⟩
    refine iR (λI S' aN=>na I (.ptr b 0) bi aS am.length z dV (.ptr b6 0) (F3&&g.eqs.all (wP t)) Q5/\ba X dt fc S' aN) (λS bE=> ?_) ?_
    ·refine fh (λm I S' aN=>∃(S:Nat) (W:Bool),na I (.ptr b 0) bi aS am.length z dV (.ptr b6 0) W Q5/\I.g 157=some eH/\I.g 158=some (.Z (g.eqs.length:Int))/\I.g 159=some (.Z (S:Int))/\S+m=g.eqs.length/\ba X dt fc S' aN/\W=(F3&&(g.eqs.take S).all (wP t)))
      g.eqs.length ⟨0,F3,dA.set.set.set,a8,a8,fq,Zo,kY,Zs⟩ ?_
     clear dA Bj
     rintro m I oT p7 ⟨S,W,dA,w7,vq,uw,Pq,qD,bf⟩
     have afZ:=qD.le
     cases m with
     |zero=>
      have d:=zt S g.eqs.length
      rw[ZA Zo]at bf
      subst bf
      refine dI @uw @vq @d ⟨?_⟩
      exact bE _ _ _ ⟨dA.set,qD⟩
     |succ m=>
      have d:=zu S g.eqs.length
      have bz:=zx S
      obtain⟨aj,b0⟩:=zv g.eqs S
      have agB:=ru.eqs aj (Zl b0)
      have ahm:∀e,dr j aO e->U X oT e=U X ci e:=λe B=>by rw[qD.aa e (zs B.2),Qc e B]
      obtain⟨QY,tW,VG⟩:=(e8.aa (bu:=dr j aO) ahm (λ_ a=>a)).get S aj b0
      have dp:=jo.fx S (by rw[sJ.1];omega)
      have hz:=(jo.aa ahm).row (i:=S) (r:=QY) Zd tW
      obtain⟨Gr,k8,cX,dN,kc,rfl,mS, -,sB,Vx⟩:=VG
      obtain⟨bl,gV,rI⟩:∃bl gV,aj.left=bl::gV:=by
       cases a:aj.left with
       |nil=>exact absurd a agB.some
       |cons H l=>exact⟨H,l,rfl⟩
      have U2:aj.left.headD []=bl:=by rw[rI];rfl
      have U5:gy 1 Gr (.Z 0)=some (.ptr cX 0):=by
       have:=mS.fx 0 (by rw[rI];simp[e3])
       simpa using this
      have Vg:=mS.len
      have avO:=mS.many
      rw[show(e3 aj.left).length=aj.left.length from by simp[e3]]at Vg avO
      have ry:cX<aO:=(mS.ag (by rw[rI];simp[e3])).2
      have oK:=dA.t12
      refine gh @uw @vq @d ⟨?_⟩
      refine gi ?_
      refine pN ⟨?_⟩
      refine gi ?_
      refine gh @w7 @uw (Za @dp @hz) ⟨?_⟩
      refine f8 (iH (z:=4) (b:=p7) (W:=0) (n:=4) (c:=Q.ofList [.aV, .aV, .Z 0, .cJ] 0 .nil) (a7 Zo) Zo rfl Zd Zd Vx) ?_
      generalize wa:Go.bd.bj X _ p7 _=mh
      have kC:U X mh p7=zw [Gr,k8, .Z aj.at_,kc] 4:=by rw[<-wa,a7 Zo];rfl
      have lN:∀e,e<p7->U X mh e=U X oT e:=λe B=>by rw[<-wa];exact zy
      clear wa
      have Wd:∀{S':Q af},(∀e,e<fc->U X S' e=U X dt e)->i1 X S' (λe=>e<fc) (.ptr b6 0) t:=λej=>agT.aa ej (λ_ a=>a)
      have ax6:∀e,e<fc->U X mh e=U X dt e:=λe B=>by rw[lN e Zo];exact qD.aa e B
      refine Ez @oK (bc kC) ⟨?_⟩
      refine(apw (nE:=λe=>e<fc) (P:=dr j aO) au.todj _ aj.right (Yi _) kc mh (p7+1) Zo (Wd ax6) (λe B=>Zo) (cE.aa (λe B=>lN e (zs B.2)) _ _ sB) (λe B=>zs B.2) agB.right).Zm ?_
      rintro rZ J5 gH ⟨rfl,HX⟩
      have af0:=HX.le
      rw[<-HX.aa _ Zo]at kC
      have agn:wP t aj=aj.left.all λw=>ir (lZ t aj.right) (eA t w)&&decide (eA t w=eA t bl):=by unfold wP;rw[U2]
      generalize lZ t aj.right=x at agn ⊢
      have wj:mI x= .agg [.bool x.any, .bool x.one, .str x.c.1, .bool x.c.2]:=rfl
      rw[wj]
      refine Ez (bc kC) @Vg ⟨?_⟩
      generalize EM:Go.bd.bj X _ gH _=sh
      have ff:∃c,U X sh gH=some (.cells c 4 .own)/\c.get 0=some (.bool x.any)/\c.get 1=some (.bool x.one)/\c.get 2=some (.str x.c.1)/\c.get 3=some (.bool x.c.2):=⟨_,by rw[<-EM,a7 Zo];rfl,by rw[gQ];rfl,by rw[gQ];rfl,by rw[gQ];rfl,by rw[gQ];rfl⟩
      have Qf:∀e,e<gH->U X sh e=U X J5 e:=λe B=>by rw[<-EM];exact zy
      clear EM
      rw[<-Qf _ Zo]at kC
      have ahr:∀e,e<p7->U X sh e=U X oT e:=λe B=>by rw[Qf e Zo,HX.aa e Zo,lN e B]
      have awo:dL X sh (dr j aO) cX Gr 1 (e3 aj.left):=mS.aa λe B=>ahr e (zs B.2)
      obtain⟨oh,ff,lW,ji,h2,kd⟩:=ff
      have H8:∀{S':Q af},U X S' gH=U X sh gH->cG X S' 4 (.ptr gH 0)=some (mI x):=λaJ=>by
       rw[<-aJ]at ff
       rw[sN,bc ff,bc ff,bc ff,bc ff,lW,ji,h2,kd];rfl
      have Ua:ba X dt fc sh (gH+1):=⟨Zo,λe B=>by rw[ahr e Zo];exact qD.aa e B⟩
      refine iR (λI S' aN=>na I (.ptr b 0) bi aS am.length z dV (.ptr b6 0) (W&&wP t aj) Q5/\I.g 157=some eH/\I.g 158=some (.Z (g.eqs.length:Int))/\I.g 159=some (.Z (S:Int))/\ba X dt fc S' aN) (λaxT Lv=> ?_) ?_
      ·rw[agn]at Lv
       refine fh (λm I S' aN=>∃(i:Nat) (p:Bool),na I (.ptr b 0) bi aS am.length z dV (.ptr b6 0) p Q5/\I.g 157=some eH/\I.g 158=some (.Z (g.eqs.length:Int))/\I.g 159=some (.Z (S:Int))/\I.g 23=some (.ptr p7 0)/\I.g 24=some (.ptr gH 0)/\I.g 168=some Gr/\I.g 169=some (.Z (aj.left.length:Int))/\I.g 170=some (.Z (i:Int))/\i+m=aj.left.length/\ba X sh (gH+1) S' aN/\p=(W&&(aj.left.take i).all λw=>ir x (eA t w)&&decide (eA t w=eA t bl)))
        aj.left.length ⟨0,W,dA.set.set.set.set.set.set,aL w7,aL vq,aL uw,a8,a8,a8,a8,fq,Zo,ba.refl _ _,Zs⟩ ?_
       clear dA w7 vq uw oK d bz
       rintro sS I G9 A2 ⟨i,p,dA,w7,vq,uw,GB,Bk,Rn,Nc,JF,aFd,ol,aw⟩
       have af1:=ol.le
       have Ub:ba X dt fc G9 A2:=⟨Zo,λe B=>by rw[ol.aa e Zo];exact Ua.aa e B⟩
       cases sS with
       |zero=>
        have d:=zt i aj.left.length
        rw[ZA Zo]at aw
        subst aw
        refine dI @JF @Nc @d ⟨?_⟩
        exact Lv _ _ _ ⟨dA.set,aL w7,aL vq,aL uw,Ub⟩
       |succ sS=>
        have d:=zu i aj.left.length
        have bz:=zx i
        obtain⟨w,bs⟩:=zv aj.left i
        have VH:=awo.aa (S':=G9) λe B=>ol.aa e (zs B.2)
        have afN:=VH.fx i (by simp[e3];omega)
        have afi:=VH.cell i [.str w] 0 (.str w) (by unfold e3;rw[Zu,bs];rfl) rfl
        rw[Z1]at afN
        rw[Z1,ZR]at afi
        have oK:=dA.t12
        have u8:=dA.t8
        refine gh @JF @Nc @d ⟨?_⟩
        refine gi ?_
        refine pN ⟨?_⟩
        refine gi ?_
        refine gh @Rn @JF (Za @oK (Za @afN @afi)) ⟨?_⟩
        refine(vV (j:=A2) au.todj Zo (Wd Ub.aa) (λe B=>Zo) w).Zm ?_
        rintro aj2 D0 jM ⟨rfl,uV⟩
        have af2:=uV.le
        have agm:eA t w=jm ((t w).getD ld).d:=rfl
        generalize (t w).getD ld=kQ at agm ⊢
        have aw6:ky kQ=[.Z kQ.kind, .str kQ.d.name, .Z kQ.d.at_, .bool kQ.d.ty.b, .bool kQ.d.ty.s, .Z kQ.d.ty.w, .str kQ.d.on, .Z kQ.d.et, .bool kQ.d.no, .Z kQ.eq, .Z kQ.left]:=rfl
        rw[aw6]
        have aeb:=kC
        rw[<-ol.aa _ Zo, <-uV.aa _ Zo]at aeb
        have auM:aP X D0 (.ptr cX 0)=some (.str bl):=by
         have:=(VH.aa (S':=D0) λe B=>uV.aa e (zs B.2)).cell 0 [.str bl] 0 (.str bl) (by rw[rI];rfl) rfl
         simpa using this
        refine gh @oK @GB (Za (bc aeb) (Za @U5 @auM)) ⟨?_⟩
        refine eN (λD1=>cG X D1 8 (.ptr jM 1)=some (.agg (d2 kQ.d))/\∀e,e<jM->U X D1 e=U X D0 e) ⟨by
         rw[nT,bc (a7 Zo),bc (a7 Zo),bc (a7 Zo),bc (a7 Zo),bc (a7 Zo),bc (a7 Zo),bc (a7 Zo),bc (a7 Zo),gQ,gQ,gQ,gQ,gQ,gQ,gQ,gQ];rfl,λe B=>zy⟩ ?_
        rintro D1 ⟨C6,ahv⟩
        have atY:ba X dt fc D1 (jM+1):=⟨Zo,λe B=>by rw[ahv e Zo,uV.aa e Zo];exact Ub.aa e B⟩
        refine(vV (j:=jM+1) au.todj Zo (Wd atY.aa) (λe B=>Zo) bl).Zm ?_
        rintro aGX D2 ud ⟨rfl,Ue⟩
        have aFt:=Ue.le
        have agl:eA t bl=jm ((t bl).getD ld).d:=rfl
        generalize (t bl).getD ld=v0 at agl ⊢
        have aw5:ky v0=[.Z v0.kind, .str v0.d.name, .Z v0.d.at_, .bool v0.d.ty.b, .bool v0.d.ty.s, .Z v0.d.ty.w, .str v0.d.on, .Z v0.d.et, .bool v0.d.no, .Z v0.eq, .Z v0.left]:=rfl
        rw[aw5]
        have aza:cG X D2 8 (.ptr jM 1)=some (.agg (d2 kQ.d)):=by rw[<-C6,nT,nT];simp only[cv,Ue.aa jM Zo]
        refine pN ⟨?_⟩
        generalize EN:Go.bd.bj X _ ud _=xn
        have ay8:cG X xn 8 (.ptr ud 1)=some (.agg (d2 v0.d)):=by
         have Gf:∃c,U X xn ud=some (.cells c 11 .own)/\∀i,i<11->c.get i=(ky v0)[i]? :=⟨_,by rw[<-EN,a7 Zo];rfl,λi aG=>by
          rw[gQ,Zr ⟨YK _,by simpa[D.cells]using aG⟩,YJ];rfl⟩
         obtain⟨c,kl,ax⟩:=Gf
         rw[nT,bc kl,bc kl,bc kl,bc kl,bc kl,bc kl,bc kl,bc kl,ax 1 Zo,ax (1+1) Zo,ax (1+2) Zo,ax (1+3) Zo,ax (1+4) Zo,ax (1+5) Zo,ax (1+6) Zo,ax (1+7) Zo];rfl
        have Qh:∀e,e<ud->U X xn e=U X D2 e:=λe B=>by rw[<-EN];exact zy
        clear EN
        have ah3:cG X xn 8 (.ptr jM 1)=some (.agg (d2 kQ.d)):=by rw[<-aza,nT,nT];simp only[cv,Qh jM Zo]
        have Qi:∀e,e<gH+1->U X xn e=U X sh e:=λe B=>by rw[Qh e Zo,Ue.aa e Zo,ahv e Zo,uV.aa e Zo];exact ol.aa e B
        have atZ:ba X sh (gH+1) xn (ud+1):=⟨Zo,Qi⟩
        have azd:=H8 (Qi gH Zo)
        have LF:∀Ge,Ge=(p&&(ir x (jm kQ.d)&&decide (jm kQ.d=jm v0.d)))->Ge=(W&&(aj.left.take (i+1)).all λw=>ir x (eA t w)&&decide (eA t w=eA t bl)):=λGe a=>by rw[a,aw,D7 bs,Yz,agm,agl]
        cases p with
        |false=>
         refine dI @u8 @JF @bz ⟨?_⟩
         exact⟨sS,Zo,i+1,false,((dA.set.set.set.set).ok false).set,aL w7,aL vq,aL uw,aL GB,aL Bk,aL Rn,aL Nc,a8,Zo,atZ.more Zo,LF _ rfl⟩
        |true=>
         refine fI @u8 @Bk @azd @ah3 ⟨?_⟩
         refine(Hv (j:=ud+1+18) au.todj Zo kQ.d).Zm ?_
         rintro aGY ao0 azR ⟨rfl,Uf⟩
         have aFu:=Uf.le
         have aze:=H8 (S':=ao0) (by rw[Uf.aa gH Zo];exact Qi gH Zo)
         refine cI @Bk @aze ⟨?_⟩
         refine f4 (by simp[mI,vK,D.same,lO,qS]) ?_
         refine cx ⟨?_⟩
         refine(O2 (j:=azR) au.todj Zo x (jm kQ.d)).Zm ?_
         rintro aGZ jB ME ⟨rfl,aeN⟩
         have aFv:=aeN.le
         have Wh:∀e,e<ud+1->U X jB e=U X xn e:=λe B=>by rw[aeN.aa e Zo,Uf.aa e Zo]
         have aeO:ba X sh (gH+1) jB ME:=⟨Zo,λe B=>by rw[Wh e Zo];exact Qi e B⟩
         cases gx:ir x (jm kQ.d)with
         |false=>
          rw[gx]at LF
          refine cI @JF @bz ⟨?_⟩
          exact⟨sS,Zo,i+1,false,((dA.set.set.set.set).ok false).set,aL w7,aL vq,aL uw,aL GB,aL Bk,aL Rn,aL Nc,a8,Zo,aeO,LF _ rfl⟩
         |true=>
          rw[gx]at LF
          have azb:cG X jB 8 (.ptr jM 1)=some (.agg (d2 kQ.d)):=by rw[<-ah3,nT,nT];simp only[cv,Wh jM Zo]
          have ah2:cG X jB 8 (.ptr ud 1)=some (.agg (d2 v0.d)):=by rw[<-ay8,nT,nT];simp only[cv,Wh ud Zo]
          refine cI @azb @ah2 ⟨?_⟩
          refine(Hv (j:=ME) au.todj Zo kQ.d).Zm ?_
          rintro aG0 ao1 nm ⟨rfl,Ug⟩
          have aFw:=Ug.le
          have ay9:cG X ao1 8 (.ptr ud 1)=some (.agg (d2 v0.d)):=by rw[<-ah2,nT,nT];simp only[cv,Ug.aa ud Zo]
          refine cd @ay9 ⟨?_⟩
          refine f4 (by simp[d2,D.same,lO,oI,qS]) ?_
          refine cx ⟨?_⟩
          refine(Hv (j:=nm) au.todj Zo v0.d).Zm ?_
          rintro aG1 aEA no ⟨rfl,aeQ⟩
          have aFz:=aeQ.le
          refine dI @KG @JF @bz ⟨?_⟩
          exact⟨sS,Zo,i+1,_,((dA.set.set.set.set).ok _).set,aL w7,aL vq,aL uw,aL GB,aL Bk,aL Rn,aL Nc,a8,Zo,⟨Zo,λe B=>by rw[aeQ.aa e Zo,Ug.aa e Zo];exact aeO.aa e B⟩,LF _ Zs⟩
      clear dA w7 vq uw oK
      rintro I G9 A2 ⟨dA,w7,vq,uw,ol⟩
      refine cI @uw @bz ⟨?_⟩
      exact⟨m,Zo,S+1,_,dA.set,aL w7,aL vq,a8,Zo,ol,by rw[bf,D7 b0,Yz]⟩
    clear dA Bj f1 kY Ik
    rintro I fR dT ⟨dA,kY⟩
    have aDI:=dA.t67
    refine cI @aDI @bz ⟨?_⟩
    exact⟨m,Zo,z+1,_,_,aL dA.t3,aL dA.t5,aL dA.t8,aL dA.t9,aL dA.t65,aL dA.t66,a8,Zo,⟨zs kY.le,λe B=>by rw[kY.aa e Zo,hg e Zo];exact ez.aa e B⟩,by rw[fs, <-avZ, <-avY];simp only[Yz],CB⟩
  ·have f5:decide (B5≠0)=true:=by simp[AC]
   rw[Zr (by simpa using AC)]at rG
   simp only[YN]at rG
   obtain⟨rfl,rfl⟩:=rG
   refine fO @f5 (bc dg) @Ed @acR @arF ⟨?_⟩
   refine xB AN ?_
   refine cx ⟨?_⟩
   exact⟨rfl,Zo,λe B=>by simp(disch:=omega) only[aB];exact aeG e B⟩
end
end
end Go.Proofs.YtpeabpmnlmaabaaGreatDoor

namespace Go.bd
noncomputable section
open Go.RowKit (Below)
def ζ(l:List D):Prop:=∀v∈l,(∀T iV,aQ T v=aQ iV v)/\∀ad,cm ad v
def GZ(w:World)(v:Value)(bt:Nat)(l:List D):Prop:=
 (v= .slice none 0 0/\l=[])\/∃cL off len cap cp ty fr,v= .slice (some ⟨cL,off,none⟩) len cap/\len<=cap/\l.length=len*bt/\ζ l/\
  (0<l.length->w.heap[cL]? =some (.cells cp ty fr)/\off+l.length<=cp.size/\∀i x,l[i]? =some x->cp[off+i]? =some (aQ (λ_=>default) x))
def akF(C:aK)(H:D)(b bt:Nat)(l:List D):Prop:=
 (H= .aV/\l=[])\/∃len cap,H= .slice b 0 len cap/\len<=cap/\l.length=len*bt/\(0<l.length->U C .nil b=some (.cells (Q.ofList l 0 .nil) l.length .kw))
def ys(l:List D)(G:Q af)(b:Nat):Q af:=if 0<l.length then G.set b (some (.cells (Q.ofList l 0 .nil) l.length .kw))else G
def GZ.pl{w:World}{v:Value}{bt:Nat}{l:List D}(a:GZ w v bt l)(b:Nat):∃(H:D) (pl:m8),(∀T:db,T b=pl->aQ T H=v)/\(∀ad:Nat->Prop,ad b->cm ad H)/\
 ((H= .aV/\l=[])\/∃len cap,H= .slice b 0 len cap/\len<=cap/\l.length=len*bt)/\(0<l.length->∀C T ad,kA C T ad (.cells (Q.ofList l 0 .nil) l.length .kw) pl w):=by
 rcases a with ⟨rfl,rfl⟩|⟨cL,off,len,cap,cp,ty,fr,rfl,M,R,ak,aA⟩
 ·exact⟨.aV,default,λ_ _=>rfl,λ_ _=>trivial, .inl ⟨rfl,rfl⟩,λa=>by simp at a⟩
 ·refine⟨.slice b 0 len cap,⟨cL,off,l.length⟩,λT dR=>by simp[aQ,dR],λad d=>d, .inr ⟨len,cap,rfl,M,R⟩,λa C T ad=> ?_⟩
  obtain⟨bQ,ct,c1⟩:=aA a
  obtain⟨bL,aG⟩:=fr
  refine⟨cp,ty,bL,aG,bQ,⟨trivial,Zj _,ct⟩,ct,λi x ae=> ?_⟩
  rw[mZ]at ae
  have bp:=ak x (Zl ae)
  exact⟨by rw[bp.1 T (λ_=>default)];exact c1 i x ae,bp.2 ad⟩
section
variable{P:Program}{w:World}
def ayx{nm:List (String×Nat)}(jb:BG P nm){laid:List (String×DataW Unit)}{hB:Nat->List D->Option D}(a:laidMet P laid w){a2:Nat}{os:List (Nat×af)}(aC:hm P nm laid P.globals.size=(a2,os)){v0:Value}{qc:Nat}{fy:List D}(aX:GZ w v0 qc fy):
 ∃T ad a0,dn ⟨P,ys fy (n2 os .nil) a2,a2+1,hB,P.globals.size⟩ T ad .nil (a2+1) w.heap.size w/\th ⟨P,ys fy (n2 os .nil) a2,a2+1,hB,P.globals.size⟩ T ad/\ew ad [a0]/\b4 T [a0]=[v0]/\
  akF ⟨P,ys fy (n2 os .nil) a2,a2+1,hB,P.globals.size⟩ a0 a2 qc fy:=by
 obtain⟨a0,Jh,dB,jG,t0,k4⟩:=aX.pl a2
 obtain⟨dq,gS,_,l7⟩:=a
 have ch:tg w dq:=λb off ag=>(l7 b off ag).1
 obtain⟨bb,b5,f,a3⟩:=ahM (C:=⟨P,ys fy (n2 os .nil) a2,a2+1,hB,P.globals.size⟩) jb laid P.globals.size dq rfl gS ch (λb off ag=>(l7 b off ag).2)
 rw[aC]at bb b5 a3
 simp only at bb b5 a3
 have d6:∀b W,U ⟨P,ys fy (n2 os .nil) a2,a2+1,hB,P.globals.size⟩ .nil b=some W->((b,W)∈os/\b<a2)\/(b=a2/\0<fy.length/\W= .cells (Q.ofList fy 0 .nil) fy.length .kw):=by
  intro b W bf
  unfold U at bf
  rw[fN]at bf
  split at bf
  ·rename_i ag
   have ag:=l1 ag
   unfold ys at bf
   split at bf
   ·rename_i aw
    rw[Q.kW]at bf
    split at bf
    ·rename_i E;cases bf;exact .inr ⟨E.symm▸rfl,aw,rfl⟩
    ·rcases Xw b W os .nil bf with aj|aj
     ·exact .inl ⟨aj,by have cA:b<P.globals.size\/b<a2:=(b5 (b,W) aj).2.1;have:P.globals.size<=a2:=bb;omega⟩
     ·simp at aj
   ·rcases Xw b W os .nil bf with aj|aj
    ·exact .inl ⟨aj,by have cA:b<P.globals.size\/b<a2:=(b5 (b,W) aj).2.1;have:P.globals.size<=a2:=bb;omega⟩
    ·simp at aj
  ·simp at bf
 refine⟨λb=>if b<P.globals.size then⟨b,0,0⟩else if b=a2 then Jh else f b,λb=>b<a2+1,a0,⟨Zj _,λ_ a=>a,λb W bf=> ?_, ?_, ?_, ?_, ?_⟩, ?_, ?_, ?_, ?_⟩
 ·rcases d6 b W bf with a|a
  ·omega
  ·omega
 ·intro b W bf _
  rcases d6 b W bf with a|⟨rfl,aw,rfl⟩
  ·exact a3 (λb=>if b<P.globals.size then⟨b,0,0⟩else if b=a2 then Jh else f b) (λb=>b<a2+1) (λb M R=>⟨by rw[Zh Zo,Zh Zo],Zo⟩) (λg b2=>⟨by rw[Zr b2],by have:P.globals.size<=a2:=bb;omega⟩) (b,W) a.1
  ·show kA _ _ _ _ (if b<P.globals.size then(⟨b,0,0⟩:m8)else if b=b then Jh else f b) w
   rw[Zh (by have:P.globals.size<=b:=bb;omega),Zr rfl]
   exact k4 aw _ _ _
 ·intro b dM W o' _ _ d _ _ ag
  exact absurd d (zo.2 ag)
 ·intro b W ag _ d
  exact absurd d (zo.2 ag)
 ·intro b W bf _
  rcases d6 b W bf with a|⟨rfl,aw,rfl⟩
  ·exact(b5 (b,W) a.1).2.2 _ _
  ·refine⟨λc n l aC=>(by cases aC),λc n st ax i v bB=> ?_⟩
   cases ax
   rw[mZ]at bB
   exact(Zc.1 bB).1
 ·intro g b2
  have b2:g<P.globals.size:=b2
  exact⟨Zo,by simp[b2],by simp[b2]⟩
 ·exact⟨jG _ Zo,trivial⟩
 ·simp only[b4]
  rw[dB _ (by rw[Zh Zo,Zr rfl])]
 ·rcases t0 with a|⟨len,cap,cN,cA,eb⟩
  ·exact .inl a
  ·refine .inr ⟨len,cap,cN,cA,eb,λa=> ?_⟩
   unfold U ys
   have:Nat.blt a2 (a2+1)=true:=by simp[Nat.blt]
   rw[this,fo,Zr a,Q.kW,Zr rfl]
end
end
end Go.bd

namespace Go.Proofs.YtpeabpmnlmaabaaGreatDoor
open Go.bd Go.aT
noncomputable section
def nm:List (String×Nat):=[((Tryz.prog.typeName? 3 206).getD "",206)]
def ao:Nat×List (Nat×af):=hm Tryz.prog nm Rows.clocksBelowRow.laid Tryz.prog.globals.size
def C6:ao.1=22:=Zk
def fD:Q af:=n2 ao.2 .nil
def aty:fD.get 0=zw [.str [45,62], .str [60,60], .str [62,62], .str [60,61], .str [62,61], .str [60,62], .str [40], .str [41], .str [44], .str [59], .str [58], .str [61], .str [60], .str [62], .str [43], .str [45], .str [42]] 17:=Zk
def HS:fD.get 3=zw [.slice 14 0 18 18] 1:=Zk
def v1:fD.get 1=zw [.map 16] 1:=Zk
def ED:fD.get 2=zw [.bool true, .bool false, .int .i64 1] 3:=Zk
def OL:fD.get 7=zw [.map 15] 1:=Zk
def KU:fD.get 5=zw [.iface 206 (.ptr 13 0)] 1:=Zk
def xS:fD.get 6=zw [.iface 206 (.ptr 12 0)] 1:=Zk
def Ap:fD.get 8=zw [.slice 17 0 2 2, .slice 18 0 1 1, .slice 19 0 6 6, .slice 20 0 2 2, .slice 21 0 1 1] 5:=Zk
def atz:fD.get 14=zw [.str [110,111,100,101], .str [114,101,116,117,114,110,115], .str [118,97,114], .str [108,101,116], .str [116,101,108], .str [119,104,101,110], .str [110,111,116], .str [111,114], .str [120,111,114], .str [97,110,100], .str [112,114,101], .str [102,98,121], .str [105,102], .str [116,104,101,110], .str [101,108,115,101], .str [109,101,114,103,101], .str [116,114,117,101], .str [102,97,108,115,101]] 18:=Zk
def atB:fD.get 16=some (.look [(.str [97,110,100], .bool true),(.str [101,108,115,101], .bool true),(.str [102,97,108,115,101], .bool true),(.str [102,98,121], .bool true),(.str [105,102], .bool true),(.str [108,101,116], .bool true),(.str [109,101,114,103,101], .bool true),(.str [110,111,100,101], .bool true),(.str [110,111,116], .bool true),(.str [111,114], .bool true),(.str [112,114,101], .bool true),(.str [114,101,116,117,114,110,115], .bool true),(.str [116,101,108], .bool true),(.str [116,104,101,110], .bool true),(.str [116,114,117,101], .bool true),(.str [118,97,114], .bool true),(.str [119,104,101,110], .bool true),(.str [120,111,114], .bool true)]):=Zk
structure sj(X:cl):Prop where
 a2:X.a2=23
 get:∀b,b<22->X.G.get b=fD.get b
section
variable{X:cl}{h:Q af}
def sj.U(a:sj X){b:Nat}(ag:b<22):U X h b=fD.get b:=by
 have E:Nat.blt b (o X).a2=true:=by
  show Nat.blt b X.a2=true
  rw[a.a2];simp[Nat.blt];omega
 unfold Go.bd.U
 rw[E,fo]
 exact a.get b ag
def sj.ym(a:sj X){b n:Nat}(ag:b<22){c:Q D}{st:oU}(b2:fD.get b=some (.cells c n st))(W:Nat):aP X h (.ptr b W)=c.get W:=bc (by rw[a.U ag];exact b2) W
def asQ(a:sj X):DS X:=λh=>by
 rw[wJ,a.U Zd,ED]
 rfl
def asR(a:sj X):mf X:=⟨⟨13,λh=>by rw[a.ym Zd KU];rfl⟩,⟨12,λh=>by rw[a.ym Zd xS];rfl⟩⟩
def asX(a:sj X):R0 X:=⟨λh=>by
 rw[wJ,a.U Zd,aty]
 rfl⟩
def ay5(w:aY):∀L:List (aY×D),(L.map Prod.fst).Nodup->p6 X h 9 (.str w) (L.map λE=>(D.str E.1,E.2))=some ((L.find? λE=>decide (E.1=w)).map Prod.snd):=by
 intro L
 induction L with
 |nil=>intro _;rfl
 |cons E L ai=>
  intro aE
  rw[ZP,zk]at aE
  simp only[ZP,p6,ai aE.2,adB,qS,zj]
  by_cases a:E.1=w
  ·have cz:w=E.1:=a.symm
   have l6:L.find? (λE=>decide (E.1=w))=none:=by
    rw[Y3]
    intro x ae b0
    have:x.1=w:=by simpa using b0
    exact aE.1 (by rw[a, <-this];exact List.mem_map_of_mem ae)
   simp[a,l6]
  ·have cz:¬w=E.1:=λaj=>a aj.symm
   simp[a,cz]
noncomputable def um:List aY:=[[97,110,100],[101,108,115,101],[102,97,108,115,101],[102,98,121],[105,102],[108,101,116],[109,101,114,103,101],[110,111,100,101],[110,111,116],[111,114],[112,114,101],[114,101,116,117,114,110,115],[116,101,108],[116,104,101,110],[116,114,117,101],[118,97,114],[119,104,101,110],[120,111,114]]
def ajg(s:aY):s∈um↔s∈wU:=by
 constructor
 ·intro a
  have:∀w∈um,w∈wU:=by decide
  exact this s a
 ·intro a
  have:∀w∈wU,w∈um:=by decide
  exact this s a
def aBA:((um.map λs=>(s,D.bool true)).map λE:aY×D=>(D.str E.1,E.2))=[(.str [97,110,100], .bool true),(.str [101,108,115,101], .bool true),(.str [102,97,108,115,101], .bool true),(.str [102,98,121], .bool true),(.str [105,102], .bool true),(.str [108,101,116], .bool true),(.str [109,101,114,103,101], .bool true),(.str [110,111,100,101], .bool true),(.str [110,111,116], .bool true),(.str [111,114], .bool true),(.str [112,114,101], .bool true),(.str [114,101,116,117,114,110,115], .bool true),(.str [116,101,108], .bool true),(.str [116,104,101,110], .bool true),(.str [116,114,117,101], .bool true),(.str [118,97,114], .bool true),(.str [119,104,101,110], .bool true),(.str [120,111,114], .bool true)]:=rfl
def asV(a:sj X):ND X:=⟨.map 16,λh=>⟨by rw[a.ym Zd v1];rfl,λs=>by
 have bz:U X h 16=_:=(a.U Zd).trans atB
 rw[<-aBA]at bz
 have AF:((um.map λs=>(s,D.bool true)).map Prod.fst).Nodup:=by decide
 simp only[nU,bz,QK,fo,ay5 s _ AF]
 have b7:((um.map λs=>(s,D.bool true)).find? λE=>decide (E.1=s)).map Prod.snd=if s∈um then some (D.bool true)else none:=by
  by_cases aD:s∈um
  ·rw[Zr aD]
   generalize um=L at aD
   induction L with
   |nil=>cases aD
   |cons H L ai=>
    rw[ZP,zj]
    by_cases az:H=s
    ·simp[az]
    ·simp only[az,Yh]
     exact ai ((Zt.1 aD).resolve_left (λE=>az E.symm))
  ·rw[Zh aD]
   have:(um.map λs=>(s,D.bool true)).find? (λE=>decide (E.1=s))=none:=by
    rw[Y3]
    intro x ae b0
    obtain⟨e,B,rfl⟩:=ZI.1 ae
    have:e=s:=by simpa using b0
    exact aD (this▸B)
   rw[this];rfl
 rw[b7]
 have:decide (s∈wU)=decide (s∈um):=by
  by_cases aD:s∈um
  ·simp[aD,(ajg s).1 aD]
  ·have:¬s∈wU:=λaj=>aD ((ajg s).2 aj)
   simp[aD,this]
 rw[this]
 by_cases aD:s∈um
 ·simp[aD,IY]
 ·simp[aD,IY]⟩⟩
def Jn{P:Nat->Prop}{b z bt n:Nat}{bK:List (List D)}{st:oU}(a:sj X)(ag:b<22)(b2:fD.get b=some (.cells (Q.ofList bK.flatten 0 .nil) n st))(aE:n=z*bt)(aJ:bK.length=z)(Y:∀r∈bK,r.length=bt)(bp:z<=300000)(bq:P b):dL X h P b (.slice b 0 z z) bt bK:=
 Jm (st:=st) (by rw[a.U ag,b2,aE]) aJ Y bp bq
def asU(a:sj X):sc X:=⟨by rw[a.a2];decide,λh=>⟨14, .slice 14 0 18 18,by rw[a.ym Zd HS];rfl,Jn a Zd atz rfl rfl Zd Zd (by rw[a.a2];decide)⟩⟩
def atD:fD.get 17=zw ((ar 0).map λW=>[D.str W.1, .int .i64 W.2]).flatten 4:=Zk
def atE:fD.get 18=zw ((ar 1).map λW=>[D.str W.1, .int .i64 W.2]).flatten 2:=Zk
def atF:fD.get 19=zw ((ar 2).map λW=>[D.str W.1, .int .i64 W.2]).flatten 12:=Zk
def atG:fD.get 20=zw ((ar 3).map λW=>[D.str W.1, .int .i64 W.2]).flatten 4:=Zk
def atH:fD.get 21=zw ((ar 4).map λW=>[D.str W.1, .int .i64 W.2]).flatten 2:=Zk
def Nk(z:Nat):∀r∈(ar z).map λW=>[D.str W.1, .int .i64 W.2],r.length=2:=by
 intro r Y
 obtain⟨W,_,rfl⟩:=ZI.1 Y
 rfl
set_option maxRecDepth 20000 in
def asT(a:sj X):xh X:=⟨by rw[a.a2];decide,λh z aJ=>by
 have bq:∀b,b<22->b<X.a2:=λb ag=>by rw[a.a2];omega
 match z,aJ with
 |0,_=>exact⟨17, .slice 17 0 2 2,by rw[a.ym Zd Ap];rfl,Jn (P:=λe=>e<X.a2) (b:=17) (bK:=(ar 0).map λW=>[D.str W.1, .int .i64 W.2]) a Zd atD rfl rfl (Nk 0) Zd (bq 17 Zd)⟩
 |1,_=>exact⟨18, .slice 18 0 1 1,by rw[a.ym Zd Ap];rfl,Jn (P:=λe=>e<X.a2) (b:=18) (bK:=(ar 1).map λW=>[D.str W.1, .int .i64 W.2]) a Zd atE rfl rfl (Nk 1) Zd (bq 18 Zd)⟩
 |2,_=>exact⟨19, .slice 19 0 6 6,by rw[a.ym Zd Ap];rfl,Jn (P:=λe=>e<X.a2) (b:=19) (bK:=(ar 2).map λW=>[D.str W.1, .int .i64 W.2]) a Zd atF rfl rfl (Nk 2) Zd (bq 19 Zd)⟩
 |3,_=>exact⟨20, .slice 20 0 2 2,by rw[a.ym Zd Ap];rfl,Jn (P:=λe=>e<X.a2) (b:=20) (bK:=(ar 3).map λW=>[D.str W.1, .int .i64 W.2]) a Zd atG rfl rfl (Nk 3) Zd (bq 20 Zd)⟩
 |4,_=>exact⟨21, .slice 21 0 1 1,by rw[a.ym Zd Ap];rfl,Jn (P:=λe=>e<X.a2) (b:=21) (bK:=(ar 4).map λW=>[D.str W.1, .int .i64 W.2]) a Zd atH rfl rfl (Nk 4) Zd (bq 21 Zd)⟩⟩
def arO(H b:Int):i2 X h 20 3 (.int .i64 H) (.int .i64 b)=some (u7 H b):=Zk
def aAe(H:Int):nH X 20 3 (.int .i64 H)=true:=Zk
def ay4(w:Int):∀L:List (Int×D),(L.map Prod.fst).Nodup->p6 X h 3 (.int .i64 w) (L.map λE=>(D.int .i64 E.1,E.2))=some ((L.find? λE=>decide (E.1=w)).map Prod.snd):=by
 intro L
 induction L with
 |nil=>intro _;rfl
 |cons E L ai=>
  intro aE
  rw[ZP,zk]at aE
  simp only[ZP,p6,ai aE.2,arO,CO,zj]
  by_cases a:E.1=w
  ·have l6:L.find? (λE=>decide (E.1=w))=none:=by
    rw[Y3]
    intro x ae b0
    have:x.1=w:=by simpa using b0
    exact aE.1 (by rw[a, <-this];exact List.mem_map_of_mem ae)
   simp[a,l6]
  ·have cz:¬w=E.1:=λaj=>a aj.symm
   simp[a,cz]
noncomputable def Jw:List (Int×(Int×Bool×Bool×Bool)):=[1,2,3,4,5,6,19,20,23,24,25,26].map λz:Int=>(z,(vl z).getD (0,false,false,false))
def atA:fD.get 15=some (.look ((Jw.map λE=>(E.1,D.agg (q0 E.2))).map λE=>(D.int .i64 E.1,E.2))):=Zk
def aCp(z:Int):(Jw.find? λE=>decide (E.1=z)).map Prod.snd=vl z:=by
 by_cases aJ:z=1\/z=2\/z=3\/z=4\/z=5\/z=6\/z=19\/z=20\/z=23\/z=24\/z=25\/z=26
 ·rcases aJ with rfl|rfl|rfl|rfl|rfl|rfl|rfl|rfl|rfl|rfl|rfl|rfl<;>decide
 ·have M:vl z=none:=by
   unfold vl
   rw[Zh Zo,Zh Zo,Zh Zo,Zh Zo,Zh Zo,Zh Zo,Zh Zo,Zh Zo,Zh Zo]
  rw[M]
  have:Jw.find? (λE=>decide (E.1=z))=none:=by
   rw[Y3]
   intro x ae b0
   have P2:x.1=z:=by simpa using b0
   obtain⟨e,B,rfl⟩:=ZI.1 ae
   simp only at P2
   subst P2
   simp only[Zt,ZJ,Ym]at B
   exact aJ B
  rw[this];rfl
def asW(a:sj X):xi X:=⟨λh=>⟨.map 15,by rw[a.ym Zd OL];rfl,λz=>by
 have bz:U X h 15=_:=(a.U Zd).trans atA
 have AF:((Jw.map λE=>(E.1,D.agg (q0 E.2))).map Prod.fst).Nodup:=by decide
 simp only[nU,bz,aAe,fo,ay4 z _ AF]
 have b7:((Jw.map λE=>(E.1,D.agg (q0 E.2))).find? λE=>decide (E.1=z)).map Prod.snd=(vl z).map λs=>D.agg (q0 s):=by
  rw[<-aCp z,List.find?_map]
  have:((λE:Int×D=>decide (E.1=z))∘λE:Int×(Int×Bool×Bool×Bool)=>(E.1,D.agg (q0 E.2)))=λE=>decide (E.1=z):=rfl
  rw[this]
  cases Jw.find? (λE=>decide (E.1=z))<;>rfl
 rw[b7]
 cases vl z with
 |none=>rfl
 |some s=>rfl⟩⟩
def asY(a:sj X):JV X:=⟨asR a,asV a,asX a⟩
end
end
end Go.Proofs.YtpeabpmnlmaabaaGreatDoor

