/- Part of the proof of the last text; no conditions -/
import Derived.Test.YtendhgofocgngaaGreatDoorYy
import Derived.Test.YtendhgofocgngaaGreatDoorRows
import Derived.ProofKit
set_option maxHeartbeats 8000000
set_option linter.all false
namespace Go.Proofs.YtendhgofocgngaaGreatDoor
open Go.bn Go.aT
noncomputable section
section
variable{X:co}{h R aU aQ:S ai}{j ap aL bc:Nat}{P:Nat->Prop}
def anJ(E b c d:Int):mu X h 50 26 (.agg [.int .i64 E, .int .i64 b]) (.agg [.int .i64 c, .int .i64 d])=(match some (tJ E c)with|some true=>(match some (tJ b d)with|some true=>some true|some false=>some false|none=>none)|some false=>some false|none=>none):=Zk
def anI(E b:Int):dv X h .eql 26 false (.agg [.int .i64 E, .int .i64 b]) (.agg [.int .i64 E, .int .i64 b])=some (.bool true):=by
 have a:dv X h .eql 26 false (.agg [.int .i64 E, .int .i64 b]) (.agg [.int .i64 E, .int .i64 b])=(match mu X h 50 26 (.agg [.int .i64 E, .int .i64 b]) (.agg [.int .i64 E, .int .i64 b])with|some b=>oV b|none=>none):=Zk
 rw[a,anJ,yB,yB]
 simp
def anY(b:Nat):dv X h .eql 23 true (.ptr b 0) .cW=some (.bool false):=Zk
set_option maxRecDepth 100000 in
def auK(az:jd X)(eN:HS X)(gj:vG X)(ap4:s4 X)(ap5:Ak X)(Tr:(q X).g7 5 []=some (.bool true)){a0 bd:z}{mP s:aW}{w:Nat}(bF:w<256)(aM:(q X).bf<=j)(aw:eT a0=some (.int .i64 (mP.length:Int)))(aD:s.length<=5000)(ah:∀c∈s,c<256)
 (g5:nl X h 1 a0 none (some (.int .i64 (min (mP.length:Int) 5000))) none=some bd)(lu:eT bd=some (.int .i64 (s.length:Int)))(yb:∀R aP,bG X h j R aP->AM X R bd=some (.str s)):
 ba X 3 [a0, .int .u8 (w:Int)] h j (λac R ap=>ac= .bool true/\bG X h j R ap) (λ_ _ _=>False):=by
 refine zJ az.todN (ajg X) ?_
 rw[ajh]
 unfold WC
 refine ey @aw @ae3 @g5 ⟨?_⟩
 refine(UC (j:=j) az eN gj aD ah aM lu yb).Zm ?_
 rintro ac aQ bc ⟨sC,cu⟩
 have gE:=cu.le
 cases u4:w0 s with
 |error ld=>
  rw[u4]at sC
  obtain⟨o,E⟩:=ld
  have Jo:=awP aD u4
  have aX:ac= .tuple [.cW, .agg [.int .i64 o, .int .i64 E]]:=sC
  subst aX
  have aG:decide (o≠0)=true:=by simp[Jo]
  refine cY ⟨?_⟩
  generalize gk:Go.bn.bp X _ bc _=br
  have cM:∃c,Z X br bc=some (.cells c 2 .own)/\c.get 0=some (.int .i64 o)/\c.get 1=some (.int .i64 E):=⟨_,by rw[<-gk,bz Zo];rfl,by exact HD _ _ _,by exact HE _ _ _⟩
  have cz:bG X h j br (bc+1):=⟨Zo,λe D=>by rw[<-cu.ad e Zo, <-gk];exact zI⟩
  clear gk
  obtain⟨g3,cM,L0,π⟩:=cM
  refine(UC (j:=bc+1) az eN gj aD ah Zo lu (λR aP a=>yb R aP (cz.trans a))).Zm ?_
  rintro ac b0 cU ⟨sC,dz⟩
  have jy:=dz.le
  rw[u4]at sC
  have aX:ac= .tuple [.cW, .agg [.int .i64 o, .int .i64 E]]:=sC
  subst aX
  rw[<-dz.ad _ Zo]at cM
  refine cY ⟨?_⟩
  generalize j1:Go.bn.bp X _ cU _=b5
  have eZ:∃c,Z X b5 cU=some (.cells c 2 .own)/\c.get 0=some (.int .i64 o)/\c.get 1=some (.int .i64 E):=⟨_,by rw[<-j1,bz Zo];rfl,by exact HD _ _ _,by exact HE _ _ _⟩
  have eS:∀e,e<cU->Z X b5 e=Z X b0 e:=λe D=>by rw[<-j1];exact zI
  clear j1
  obtain⟨ke,eZ,Qy,ρ⟩:=eZ
  rw[<-eS _ Zo]at cM
  have d9:ep X b5 2 (.ptr bc 0)=some (.agg [.int .i64 o, .int .i64 E]):=by rw[sI,bX cM,bX cM,L0,π];rfl
  have fA:ep X b5 2 (.ptr cU 0)=some (.agg [.int .i64 o, .int .i64 E]):=by rw[sI,bX eZ,bX eZ,Qy,ρ];rfl
  refine lT (bX cM) @L0 @aG @d9 @fA @anI ⟨?_⟩
  refine FH Tr ?_
  refine cY ⟨?_⟩
  exact⟨rfl,Zo,λe D=>by rw[eS e Zo,dz.ad e Zo];exact cz.ad e D⟩
 |ok aE=>
  rw[u4]at sC
  obtain⟨v,rfl,yo⟩:=sC
  obtain⟨adW,cK,re⟩:=awR u4
  have atf:=awQ u4
  obtain⟨SJ,la⟩:=T6 re
  obtain⟨p,rfl⟩:∃al,v= .ptr al 0:=by obtain⟨b,_,_,_,a,_⟩:=yo.prog;exact⟨b,a⟩
  have aG:decide ((0:Int)≠0)=false:=rfl
  refine cY ⟨?_⟩
  generalize gk:Go.bn.bp X _ bc _=br
  have cM:∃c,Z X br bc=some (.cells c 2 .own)/\c.get 0=some (.int .i64 0)/\c.get 1=some (.int .i64 0):=⟨_,by rw[<-gk,bz Zo];rfl,by exact HD _ _ _,by exact HE _ _ _⟩
  have cF:∀e,e<bc->Z X br e=Z X aQ e:=λe D=>by rw[<-gk];exact zI
  have cz:bG X h j br (bc+1):=⟨Zo,λe D=>by rw[cF e Zo,cu.ad e Zo]⟩
  clear gk
  obtain⟨g3,cM,L0,π⟩:=cM
  refine(UC (j:=bc+1) az eN gj aD ah Zo lu (λR aP a=>yb R aP (cz.trans a))).Zm ?_
  rintro ac b0 cU ⟨sC,dz⟩
  have jy:=dz.le
  rw[u4]at sC
  obtain⟨v,rfl,yp⟩:=sC
  obtain⟨al,rfl⟩:∃al,v= .ptr al 0:=by obtain⟨b,_,_,_,a,_⟩:=yp.prog;exact⟨b,a⟩
  rw[<-dz.ad _ Zo]at cM
  refine cY ⟨?_⟩
  generalize j1:Go.bn.bp X _ cU _=b5
  have eZ:∃c,Z X b5 cU=some (.cells c 2 .own)/\c.get 0=some (.int .i64 0)/\c.get 1=some (.int .i64 0):=⟨_,by rw[<-j1,bz Zo];rfl,by exact HD _ _ _,by exact HE _ _ _⟩
  have eS:∀e,e<cU->Z X b5 e=Z X b0 e:=λe D=>by rw[<-j1];exact zI
  clear j1
  obtain⟨ke,eZ,Qy,ρ⟩:=eZ
  rw[<-eS _ Zo]at cM
  have gy:=yo.ad (R:=b5) (bk:=du j bc) (λe D=>by have:=D.2;rw[eS e Zo,dz.ad e Zo,cF e D.2]) (λ_ a=>a)
  have ol:=yp.ad (R:=b5) (bk:=du (bc+1) cU) (λe D=>eS e D.2) (λ_ a=>a)
  have d1:bG X h j b5 (cU+1):=⟨Zo,λe D=>by rw[eS e Zo,dz.ad e Zo];exact cz.ad e D⟩
  clear cF eS yo yp cu cz dz
  obtain⟨ahj,_,ayG,amc,ax3,B,adn,ry,JR,NB⟩:=id gy
  cases B
  obtain⟨E7,_,agr,qQ,O3,B,NG,vo,JS,JH⟩:=id ol
  cases B
  have SL:=JR.rd.len
  rw[NB.wide.1]at SL
  have Gr:=JS.rd.len
  rw[JH.wide.1]at Gr
  have Ir:decide ((aE.length:Int)≠(aE.length:Int))=false:=by simp
  refine eD (bX cM) (bX eZ) @L0 @Qy @aG @anY (Za @ry (Za @vo (Za @SL (Za @Gr @Ir)))) ⟨?_⟩
  refine(amr (j:=cU+1+19) (P:=du j bc) az eN.err ap4 ap5 Zo gy.prog (λe D=>zC D.2) adW cK re).Zm ?_
  rintro ac cp d2 ⟨rfl,eQ⟩
  have MT:=eQ.rq (show cU+1<=cU+1+19 by omega)
  have rb:=eQ.le
  clear eQ
  generalize St:FI aE=IF
  obtain⟨IF,sf⟩:=IF
  simp only
  by_cases Ss:IF=0
  ·have fD:decide (IF≠0)=false:=by simp[Ss]
   have Dn:=ol.ad (R:=cp) (bk:=du (bc+1) cU) (λe D=>by have:=D.2;rw[MT.ad e Zo]) (λ_ a=>a)
   have he:=gy.ad (R:=cp) (bk:=du j bc) (λe D=>by have:=D.2;rw[MT.ad e Zo]) (λ_ a=>a)
   have fj:∀(i:Nat) g,aE[i]? =some g->(nb aE i g).1=0:=amq.1 (by rw[St];exact Ss)
   clear JS JH NG vo JR NB adn ry gy ol cM eZ SL Gr E7 ahj
   obtain⟨E7,_,agr,qQ,O3,B,NG,vo,JS,JH⟩:=Dn
   cases B
   have Gr:=JS.rd.len
   have atu:=JH.wide.1
   rw[atu]at Gr
   refine ey @fD @vo @Gr ⟨?_⟩
   refine fP (λm I R aP=>∃(o:Nat) (d8:Nat->Prop),I.g 1=some (.int .u8 (w:Int))/\I.g 5=some (.ptr p 0)/\I.g 7=some (.ptr al 0)/\I.g 73=some (.int .i64 (aE.length:Int))/\I.g 74=some (.int .i64 (o:Int))/\o+m=aE.length/\d2<=aP/\(∀e,d8 e->du (bc+1) cU e/\E7 e=0)/\pt X R d8 (aE.drop o) (O3.drop o)/\∀e,e<d2->¬(du (bc+1) cU e/\E7 e=0)->Z X R e=Z X cp e)
    aE.length ⟨0,λe=>du (bc+1) cU e/\E7 e=0,bt,bt,bt,bt,gc,Zo,Zh _,λ_ a=>a,JH,λ_ _ _=>rfl⟩ ?_
   rintro m I ul KD ⟨o,d8,t1,t5,fC,EM,EN,aC,aBS,tu,ac9,Np⟩
   cases m with
   |zero=>
    have d:=zD o aE.length
    refine ey @EN @EM @d ⟨?_⟩
    refine FH Tr ?_
    refine cY ⟨?_⟩
    exact⟨rfl,Zo,λe D=>by rw[Np e Zo (λa=>zC a.1.1),MT.ad e Zo];exact d1.ad e D⟩
   |succ m=>
    have d:=zE o aE.length
    have bw:bm .add (.int .i64 (o:Int)) (.int .i64 1)=some (.int .i64 ((o+1:Nat):Int)):=by rw[eG Zo Zo];rfl
    obtain⟨g,bS⟩:=zF aE o
    have Ba:=Zn bS
    have ss:=adW g Ba
    have l9:=la g Ba
    have acf:aE.drop o=g::aE.drop (o+1):=by rw[Zz Zo,(Zb.1 bS).2]
    rw[acf]at ac9
    obtain⟨row,hi,bk,Te,h6,mA,qp⟩:=ac9
    have JT:O3[o]? =some row:=by have:=congrArg List.head? Te;simpa[List.head?_drop]using this
    have asM:hi=O3.drop (o+1):=by have:=congrArg List.tail Te;simpa[List.tail_drop]using this.symm
    subst asM
    clear Te acf
    have M4:∀e,bk e->du (bc+1) cU e/\E7 e=0:=λe D=>tu e (h6 e D)
    have A8:(fO g).length<=100000:=by have:=l9.vars;simp[fO];omega
    have aqY:fO g≠[]:=λB=>by simp[fO]at B;exact ss.some B.2.1
    have JG:=avO aqY
    have acW:∀al∈g.eqs,se al.right=true/\(iO [] al.right).length<=200000:=λal bP=>⟨ag4 (ss.eqs al bP).right,by have H:=aeS al.right [];have K:=atf g Ba al bP;simp at H;omega⟩
    have NO:=JS.ad (R:=ul) (λe D=>by have:=D.1.2;exact Np e Zo (λa=>by have:=a.2;have:=D.2;omega))
    have axl:aV X ul (.ptr al 0)=some agr:=zN (Np al (zC NG.1.2) (λa=>by have:=a.2;have:=NG.2;omega)) vo
    have ab5:=NO.rd.ah (λB=>by rw[B]at JT;simp at JT)
    have aA7:=ab5.1.2
    obtain⟨mU,dk,dI,sW,eB,ch,cD,di,f4,kv,rfl,pE,q7,q8,m2,NJ⟩:=id mA
    have dV:=NO.rd.gF o (Zb.1 JT).1
    have adz:=NO.rd.row Zd JT
    have adD:=NO.rd.cell o _ 5 _ JT rfl
    refine eD @EN @EM @d @fC @axl @dV @adz ⟨?_⟩
    refine(Uw (j:=KD) az.todN (P:=bk) Zo (λe D=>zC (M4 e D).1.2) mA.row Zo).Zm ?_
    rintro ac r4 rr ⟨dl,lf,bi,b,rfl,j4,uZ,akZ,uG,LC,cR,C3⟩
    have arE:=C3.le
    refine cY ⟨?_⟩
    refine(Ur (j:=rr) az.todN (d3:=kC g) (P:=du KD rr) Zo LC cR (λe D=>D.2) JG).Zm ?_
    rintro ac LB m9 ⟨⟨qP,qq⟩,RN⟩
    have aBv:=RN.le
    have abH:=C3.trans RN
    clear C3 RN uG cR akZ LC j4 uZ
    have JY:(f8 (kC g)).length=(kC g).length:=by simp[f8]
    have Nu:=qq.len
    rw[JY]at Nu
    have ac8:=ZW.2 JG
    have aBX:=afa g
    have vY:decide (((kC g).length:Int)=0)=false:=by simp only[Zc];omega
    have aca:mw .i64 (.int .u8 (w:Int))=some (.int .i64 (w:Int)):=QM Zo Zo
    have adx:=axD w (kC g).length ac8 Zo Zo
    have SO:=zq w ac8
    obtain⟨rL,atI⟩:∃bE,(kC g)[w%(kC g).length]? =some bE:=⟨_,Ze SO⟩
    have SD:=qq.gF (w%(kC g).length) (by rw[JY];exact SO)
    have Sh:=qq.cell (w%(kC g).length) [.str rL] 0 (.str rL) (by unfold f8;rw[Zv,atI];rfl) rfl
    rw[ZP]at SD
    rw[ZP,ZR]at Sh
    have as0:aV X LB (.ptr qQ (o*6+5))=some eB:=by rw[abH.fq _ _ Zo];exact adD
    have Bc:=m2.rd.len
    have ats:=NJ.wide.1
    rw[ats]at Bc
    have aqA:=(qq.ah (by simpa[f8]using JG)).2
    refine AV @Nu @vY ⟨?_⟩
    refine gM ?_
    refine gb @t1 @aca (Za @Nu (Za @adx (Za @SD @Sh))) ⟨?_⟩
    generalize R1:Go.bn.bp X (Go.bn.bp X LB m9 _) m9 _=oR
    have ar3:aV X oR (.ptr m9 0)=some (.str rL):=by rw[<-R1,bX (bz Zo),mT];rfl
    have aeo:∀e,e<m9->Z X oR e=Z X LB e:=λe D=>by rw[<-R1];exact zI
    clear R1
    have Oa:∀e,e<KD->Z X oR e=Z X ul e:=λe D=>by rw[aeo e Zo];exact abH.ad e D
    have aCb:=qq.ad (R:=oR) (λe D=>aeo e D.2)
    have adE:aV X oR (.ptr qQ (o*6+5))=some eB:=zN (Oa qQ Zo) adD
    have sn:∀e,bk e->e<KD:=λe D=>zC (M4 e D).1.2
    have ac6:∀e,e=qQ->¬bk e:=λe B a=>by have H:=(M4 e a).2;have K:=ab5.2;rw[B]at H;omega
    have adt:=NJ.ad (R:=oR) (bk:=λe=>bk e/\mU e=0) (λe D=>Oa e (sn e D.1)) (λ_ a=>a)
    clear qq Sh SD aca adx as0 aqA
    refine dd @adE @Bc ⟨?_⟩
    refine fP (λm I R aP=>∃(i:Nat),I.g 1=some (.int .u8 (w:Int))/\I.g 5=some (.ptr p 0)/\I.g 7=some (.ptr al 0)/\I.g 9=some (.int .i64 (o:Int))/\I.g 10=some (.ptr qQ (o*6))/\I.g 11=some ac/\I.g 12=some (.ptr m9 0)/\I.g 73=some (.int .i64 (aE.length:Int))/\I.g 74=some (.int .i64 (o:Int))/\I.g 103=some (.int .i64 (g.eqs.length:Int))/\I.g 104=some (.int .i64 (i:Int))/\i+m=g.eqs.length/\m9+1<=aP/\
     lG X R (λe=>(bk e/\mU e=0)\/du (m9+1) aP e) ((g.eqs.take i).map (ut rL)++g.eqs.drop i) kv/\∀e,e<m9+1->¬(bk e/\mU e=0)->Z X R e=Z X oR e)
     g.eqs.length ⟨0,a6 t1,a6 t5,a6 fC,bt,bt,bt,bt,a6 EM,a6 EN,bt,gc,Zo,Zo,by simpa using adt.ad (λ_ _=>rfl) (λe D=> .inl D),λ_ _ _=>rfl⟩ ?_
    clear t1 t5 fC EM EN I adt
    rintro e6 I P6 D7 ⟨i,t1,t5,fC,t9,mR,qD,oG,EM,EN,Vk,Vl,aA,pG,NF,Jq⟩
    have adF:aV X P6 (.ptr qQ (o*6+5))=some eB:=zN (Jq qQ Zo (λa=>ac6 qQ rfl a.1)) adE
    have aBM:=l9.eqs
    have SA:=m2.ad (R:=P6) (λe D=>by rw[Jq e (zC (sn e D.1)) (λa=>by have:=a.2;have:=D.2;omega)];exact Oa e (sn e D.1))
    cases e6 with
    |succ e6=>
     have d:=zE i g.eqs.length
     have b3:bm .add (.int .i64 (i:Int)) (.int .i64 1)=some (.int .i64 ((i+1:Nat):Int)):=by rw[eG Zo Zo];rfl
     obtain⟨eq,e0⟩:∃al,g.eqs[i]? =some al:=⟨_,Ze Zo⟩
     have nJ:((g.eqs.take i).map (ut rL)).length=i:=by rw[Zl,YM];omega
     obtain⟨aC0,dK,om,jv,asV,tC⟩:=NF.grow i eq (by rw[ZG Zo,nJ,zz,Yk];exact e0)
     have RX:∀e,dK e->e<D7:=λe D=>by
      rcases jv e D with a|a
      ·have:=sn e a.1;omega
      ·exact a.2
     obtain⟨ago,ayb,hy,XI,rfl,M5,ho,asr⟩:=asV.grow RX
     have arm:=SA.rd.gF i (Zb.1 om).1
     have aqJ:=SA.rd.cell i _ 3 hy om rfl
     have ar4:aV X P6 (.ptr m9 0)=some (.str rL):=zN (Jq m9 Zo (λa=>zC (sn _ a.1))) ar3
     have R6:¬XI m9:=λa=>by
      rcases jv m9 (M5 m9 a)with a|a
      ·have:=sn _ a.1;omega
      ·have:=a.1;omega
     refine eD @Vl @Vk @mR @oG @d @adF (Za @arm @aqJ) ⟨?_⟩
     refine(amO (j:=D7) az.todN (dj:=m9) (aG:=rL) (P:=XI) Zo ar4 Zo (λe D=>RX e (M5 e D)) R6 ho).Zm ?_
     rintro azN vJ KE ⟨rfl,arF,atB,Gm⟩
     have asF:=asr KE vJ (n8 rL eq.right) (λe D aM=>Gm e (RX e D) aM) atB
     have ads:=tC vJ (ut rL eq) (du D7 KE) (λe D aM=>Gm e (by
      rcases D with a|a
      ·have:=sn e a.1;omega
      ·exact a.2) (λa=>aM (M5 e a))) (λe D a=>by
       rcases a with a|a
       ·have:=sn e a.1;have:=D.1;omega
       ·have:=D.1;have:=a.2;omega) asF
     rw[ae4 e0]at ads
     refine dd @Vl @b3 ⟨?_⟩
     refine⟨e6,Zo,i+1,a6 t1,a6 t5,a6 fC,a6 t9,a6 mR,a6 qD,a6 oG,a6 EM,a6 EN,a6 Vk,bt,Zo,Zo,ads.ad (λ_ _=>rfl) (λe D=> ?_),λe D aM=> ?_⟩
     ·rcases D with (a|a)|a
      ·exact .inl a
      ·exact .inr ⟨a.1,zC a.2⟩
      ·exact .inr ⟨zC a.1,a.2⟩
     ·rw[Gm e Zo (λa=> ?_)]
      ·exact Jq e D aM
      ·rcases jv e (M5 e a)with a|a
       ·exact aM a
       ·have:=a.1;omega
    |zero=>
    have d:=zD i g.eqs.length
    rw[ZH Zo,ZJ Zo,Z0]at NF
    refine ht @Vl @Vk @d @mR @adF ⟨?_⟩
    refine(axP (j:=D7) az.todN SA (an3 NF)).Zm ?_
    rintro azN vJ KE ⟨rfl,arF,arf,Gm⟩
    have aul:∀e,e<m9+1->¬(bk e/\(mU e=0\/mU e=4))->Z X vJ e=Z X oR e:=λe D aM=>by rw[Gm e (λa=>aM ⟨a.1, .inr a.2⟩),Jq e D (λa=>aM ⟨a.1, .inl a.2⟩)]
    have Ob:∀e,e<KD->¬(bk e/\(mU e=0\/mU e=4))->Z X vJ e=Z X ul e:=λe D aM=>by rw[aul e Zo aM];exact Oa e D
    have Bw:∀c,c≠0->c≠4->∀e,bk e/\mU e=c->Z X vJ e=Z X ul e:=λc H K e D=>Ob e (sn e D.1) (λa=>by have:=D.2;rcases a.2 with a|a<;>omega)
    have Kq:∀c e,bk e/\mU e=c->(bk e\/du (m9+1) D7 e)/\(if e<m9+1 then mU e else 0)=c:=λc e D=>⟨.inl D.1,(Zq (zC (sn e D.1))).trans D.2⟩
    have ar8:xs X vJ (λe=>bk e\/du (m9+1) D7 e) (us rL g) [.str g.name, .int .i64 g.at_,dk,dI,sW,eB]:=
     ⟨λe=>if e<m9+1 then mU e else 0,dk,dI,sW,eB,ch,cD,di,f4,kv.reverse,rfl,(pE.ad (Bw 1 Zd Zd)).lift (Kq 1),(q7.ad (Bw 2 Zd Zd)).lift (Kq 2),(q8.ad (Bw 3 Zd Zd)).lift (Kq 3),arf.lift (Kq 4),
      NF.rev.ad (λe D=>Gm e (λa=>by
       rcases D with K|K
       ·have:=a.2;have:=K.2;omega
       ·have:=sn e a.1;have:=K.1;omega)) (λe D=>by
       rcases D with K|K
       ·exact Kq 0 e K
       ·exact⟨.inr K,Zg (zC K.1)⟩)⟩
    have ael:∀e,e<d2->¬(du (bc+1) cU e/\E7 e=0)->Z X vJ e=Z X cp e:=λe D aM=>by rw[Ob e Zo (λa=>aM (M4 e a.1))];exact Np e D aM
    obtain⟨ahj,_,ayG,amc,ax3,B,adn,ry,JR,NB⟩:=he.ad (R:=vJ) (bk:=du j bc) (λe D=>ael e (zC D.2) (λa=>by have:=a.1.1;have:=D.2;omega)) (λ_ a=>a)
    cases B
    obtain⟨aCY,adw,ar9⟩:=NB.nodes.get o g bS
    have arn:=JR.rd.gF o (Zb.1 adw).1
    have asS:=JR.rd.row Zd adw
    have adA:ep X vJ 6 (.ptr qQ (o*6))=some (.agg [.str g.name, .int .i64 g.at_,dk,dI,sW,eB]):=by rw[DQ,Ob qQ Zo (λa=>ac6 qQ rfl a.1), <-DQ];exact adz
    refine eD @t5 @ry @t9 @arn @asS @mR @adA ⟨?_⟩
    refine(afg (j:=KE+14) az.todN (P:=du j bc) Zo (λe D=>zC D.2) (ar9.ad (λ_ _=>rfl) (λ_ a=>a.1)) A8 JG acW).Zm ?_
    rintro alN akR ae9 ⟨Ny,IU⟩
    have aBx:=IU.le
    have asR:ep X akR 6 (.ptr qQ (o*6))=some (.agg [.str g.name, .int .i64 g.at_,dk,dI,sW,eB]):=by rw[DQ,IU.ad qQ Zo, <-DQ];exact adA
    refine cq @asR ⟨?_⟩
    refine ka (ax1 pE.rd.len q7.rd.len q8.rd.len m2.rd.len) ?_
    refine(afg (j:=ae9) az.todN (g:=us rL g) (P:=λe=>bk e\/du (m9+1) D7 e) Zo (λe D=>by
     rcases D with a|a
     ·have:=sn e a;omega
     ·have:=a.2;omega) (ar8.row.ad (λe D=>IU.ad e (by
     rcases D with a|a
     ·have:=sn e a;omega
     ·have:=a.2;omega)) (λ_ a=>a)) A8 JG (λl3 S4=> ?_)).Zm ?_
    ·obtain⟨UK,a8,rfl⟩:=ZB.1 (List.mem_reverse.1 S4)
     obtain⟨H,K⟩:=acW UK a8
     exact⟨Rb rL _ H,by rw[show(ut rL UK).right=n8 rL UK.right from rfl,Ol];exact K⟩
    rintro vS akS avM ⟨sA,MU⟩
    have aBy:=MU.le
    rw[avU (fj o g bS)]at sA
    have Gp:eT alN=some (.int .i64 ((kC g).length:Int)):=by
     obtain⟨_,aY,V,bo,_⟩:=id Ny
     have:=V.len
     rw[Zl,bo,KG,Zl]at this
     exact this
    have am9:decide (((kC g).length:Int)≠((kC g).length:Int))=false:=by simp
    refine hm @Gp @qD @Nu @am9 ⟨?_⟩
    refine(an4 (j:=avM) az.todN (Ny.ad (R:=akS) (bk:=du (KE+14) ae9) (λe D=>MU.ad e D.2) (λ_ a=>a)) sA).Zm ?_
    rintro aC9 aAs aCJ ⟨rfl,rfl,aBz⟩
    refine dd @EN @bw ⟨?_⟩
    refine⟨m,Zo,o+1,λe=>d8 e/\¬bk e,a6 t1,a6 t5,a6 fC,a6 EM,bt,Zo,Zo,λe D=>tu e D.1,qp.ad (λe D=> ?_) (λ_ a=>a),λe D aM=> ?_⟩
    ·have aCp:=(tu e D.1).1.2
     rw[MU.ad e Zo,IU.ad e Zo]
     exact Ob e Zo (λa=>D.2 a.1)
    ·rw[MU.ad e Zo,IU.ad e Zo]
     exact ael e D aM
  ·have fD:decide (IF≠0)=true:=by simp[Ss]
   refine cq @fD ⟨?_⟩
   refine FH Tr ?_
   refine cY ⟨?_⟩
   exact⟨rfl,Zo,λe D=>by rw[MT.ad e Zo];exact d1.ad e D⟩
end
end
end Go.Proofs.YtendhgofocgngaaGreatDoor

namespace Go.bn
noncomputable section
open Go.RowKit (Below)
def VR(k:List z):Prop:=∀v∈k,(∀J iE,aF J v=aF iE v)/\∀Y,b7 Y v
def Fi(w:World)(v:Value)(aR:Nat)(k:List z):Prop:=
 (v= .slice none 0 0/\k=[])\/∃cr off len cap bU ty fr,v= .slice (some ⟨cr,off,none⟩) len cap/\len<=cap/\k.length=len*aR/\VR k/\
  (0<k.length->w.heap[cr]? =some (.cells bU ty fr)/\off+k.length<=bU.size/\∀i x,k[i]? =some x->bU[off+i]? =some (aF (λ_=>default) x))
def ahn(C:aK)(E:z)(b aR:Nat)(k:List z):Prop:=
 (E= .a2/\k=[])\/∃len cap,E= .slice b 0 len cap/\len<=cap/\k.length=len*aR/\(0<k.length->Z C .nil b=some (.cells (S.ofList k 0 .nil) k.length .jO))
def wW(k:List z)(G:S ai)(b:Nat):S ai:=if 0<k.length then G.set b (some (.cells (S.ofList k 0 .nil) k.length .jO))else G
def Fi.pl{w:World}{v:Value}{aR:Nat}{k:List z}(a:Fi w v aR k)(b:Nat):∃(E:z) (pl:mq),(∀J:c1,J b=pl->aF J E=v)/\(∀Y:Nat->Prop,Y b->b7 Y E)/\
 ((E= .a2/\k=[])\/∃len cap,E= .slice b 0 len cap/\len<=cap/\k.length=len*aR)/\(0<k.length->∀C J Y,jU C J Y (.cells (S.ofList k 0 .nil) k.length .jO) pl w):=by
 rcases a with ⟨rfl,rfl⟩|⟨cr,off,len,cap,bU,ty,fr,rfl,H,K,ak,ay⟩
 ·exact⟨.a2,default,λ_ _=>rfl,λ_ _=>trivial, .inl ⟨rfl,rfl⟩,λa=>by simp at a⟩
 ·refine⟨.slice b 0 len cap,⟨cr,off,k.length⟩,λJ dB=>by simp[aF,dB],λY d=>d, .inr ⟨len,cap,rfl,H,K⟩,λa C J Y=> ?_⟩
  obtain⟨bJ,b2,cF⟩:=ay a
  obtain⟨bC,aA⟩:=fr
  refine⟨bU,ty,bC,aA,bJ,⟨trivial,Zh _,b2⟩,b2,λi x af=> ?_⟩
  rw[mg]at af
  have aZ:=ak x (Zn af)
  exact⟨by rw[aZ.1 J (λ_=>default)];exact cF i x af,aZ.2 Y⟩
section
variable{P:Program}{w:World}
def auJ{nm:List (String×Nat)}(gf:Ao P nm){laid:List (String×DataW Unit)}{g7:Nat->List z->Option z}(a:laidMet P laid w){bf:Nat}{os:List (Nat×ai)}(aw:gX P nm laid P.globals.size=(bf,os)){v0:Value}{mP:Nat}{fH:List z}(a8:Fi w v0 mP fH):
 ∃J Y a0,cV ⟨P,wW fH (ni os .nil) bf,bf+1,g7,P.globals.size⟩ J Y .nil (bf+1) w.heap.size w/\rX ⟨P,wW fH (ni os .nil) bf,bf+1,g7,P.globals.size⟩ J Y/\d0 Y [a0]/\bK J [a0]=[v0]/\
  ahn ⟨P,wW fH (ni os .nil) bf,bf+1,g7,P.globals.size⟩ a0 bf mP fH:=by
 obtain⟨a0,ry,dE,jK,t0,kD⟩:=a8.pl bf
 obtain⟨df,gj,_,kA⟩:=a
 have ce:rW w df:=λb off ah=>(kA b off ah).1
 obtain⟨bd,ca,f,a3⟩:=aeF (C:=⟨P,wW fH (ni os .nil) bf,bf+1,g7,P.globals.size⟩) gf laid P.globals.size df rfl gj ce (λb off ah=>(kA b off ah).2)
 rw[aw]at bd ca a3
 simp only at bd ca a3
 have eN:∀b U,Z ⟨P,wW fH (ni os .nil) bf,bf+1,g7,P.globals.size⟩ .nil b=some U->((b,U)∈os/\b<bf)\/(b=bf/\0<fH.length/\U= .cells (S.ofList fH 0 .nil) fH.length .jO):=by
  intro b U aS
  unfold Z at aS
  rw[eR]at aS
  split at aS
  ·rename_i ah
   have ah:=ks ah
   unfold wW at aS
   split at aS
   ·rename_i av
    rw[S.kw]at aS
    split at aS
    ·rename_i B;cases aS;exact .inr ⟨B.symm▸rfl,av,rfl⟩
    ·rcases U4 b U os .nil aS with al|al
     ·exact .inl ⟨al,by have cG:b<P.globals.size\/b<bf:=(ca (b,U) al).2.1;have:P.globals.size<=bf:=bd;omega⟩
     ·simp at al
   ·rcases U4 b U os .nil aS with al|al
    ·exact .inl ⟨al,by have cG:b<P.globals.size\/b<bf:=(ca (b,U) al).2.1;have:P.globals.size<=bf:=bd;omega⟩
    ·simp at al
  ·simp at aS
 refine⟨λb=>if b<P.globals.size then⟨b,0,0⟩else if b=bf then ry else f b,λb=>b<bf+1,a0,⟨Zh _,λ_ a=>a,λb U aS=> ?_, ?_, ?_, ?_, ?_⟩, ?_, ?_, ?_, ?_⟩
 ·rcases eN b U aS with a|a
  ·omega
  ·omega
 ·intro b U aS _
  rcases eN b U aS with a|⟨rfl,av,rfl⟩
  ·exact a3 (λb=>if b<P.globals.size then⟨b,0,0⟩else if b=bf then ry else f b) (λb=>b<bf+1) (λb H K=>⟨by rw[Zg Zo,Zg Zo],Zo⟩) (λg bS=>⟨by rw[Zq bS],by have:P.globals.size<=bf:=bd;omega⟩) (b,U) a.1
  ·show jU _ _ _ _ (if b<P.globals.size then(⟨b,0,0⟩:mq)else if b=b then ry else f b) w
   rw[Zg (by have:P.globals.size<=b:=bd;omega),Zq rfl]
   exact kD av _ _ _
 ·intro b dw U o' _ _ d _ _ ah
  exact absurd d (zx.2 ah)
 ·intro b U ah _ d
  exact absurd d (zx.2 ah)
 ·intro b U aS _
  rcases eN b U aS with a|⟨rfl,av,rfl⟩
  ·exact(ca (b,U) a.1).2.2 _ _
  ·refine⟨λc n k aw=>(by cases aw),λc n st ax i v bo=> ?_⟩
   cases ax
   rw[mg]at bo
   exact(Zb.1 bo).1
 ·intro g bS
  have bS:g<P.globals.size:=bS
  exact⟨Zo,by simp[bS],by simp[bS]⟩
 ·exact⟨jK _ Zo,trivial⟩
 ·simp only[bK]
  rw[dE _ (by rw[Zg Zo,Zq rfl])]
 ·rcases t0 with a|⟨len,cap,cP,cG,d4⟩
  ·exact .inl a
  ·refine .inr ⟨len,cap,cP,cG,d4,λa=> ?_⟩
   unfold Z wW
   have:Nat.blt bf (bf+1)=true:=by simp[Nat.blt]
   rw[this,eU,Zq a,S.kw,Zq rfl]
end
end
end Go.bn

namespace Go.Proofs.YtendhgofocgngaaGreatDoor
open Go.bn Go.aT
noncomputable section
def nm:List (String×Nat):=[((Tryz.prog.typeName? 3 231).getD "",231)]
def am:Nat×List (Nat×ai):=gX Tryz.prog nm Rows.causePreRow.laid Tryz.prog.globals.size
def G6:am.1=22:=Zk
def fo:S ai:=ni am.2 .nil
def apz:fo.get 0=zG [.str [45,62], .str [60,60], .str [62,62], .str [60,61], .str [62,61], .str [60,62], .str [40], .str [41], .str [44], .str [59], .str [58], .str [61], .str [60], .str [62], .str [43], .str [45], .str [42]] 17:=Zk
def F3:fo.get 2=zG [.slice 14 0 18 18] 1:=Zk
def uC:fo.get 1=zG [.map 16] 1:=Zk
def MQ:fo.get 3=zG [.map 15] 1:=Zk
def IP:fo.get 5=zG [.iface 231 (.ptr 13 0)] 1:=Zk
def wh:fo.get 6=zG [.iface 231 (.ptr 12 0)] 1:=Zk
def xX:fo.get 8=zG [.slice 17 0 2 2, .slice 18 0 1 1, .slice 19 0 6 6, .slice 20 0 2 2, .slice 21 0 1 1] 5:=Zk
def apA:fo.get 14=zG [.str [110,111,100,101], .str [114,101,116,117,114,110,115], .str [118,97,114], .str [108,101,116], .str [116,101,108], .str [119,104,101,110], .str [110,111,116], .str [111,114], .str [120,111,114], .str [97,110,100], .str [112,114,101], .str [102,98,121], .str [105,102], .str [116,104,101,110], .str [101,108,115,101], .str [109,101,114,103,101], .str [116,114,117,101], .str [102,97,108,115,101]] 18:=Zk
def apC:fo.get 16=some (.look [(.str [97,110,100], .bool true),(.str [101,108,115,101], .bool true),(.str [102,97,108,115,101], .bool true),(.str [102,98,121], .bool true),(.str [105,102], .bool true),(.str [108,101,116], .bool true),(.str [109,101,114,103,101], .bool true),(.str [110,111,100,101], .bool true),(.str [110,111,116], .bool true),(.str [111,114], .bool true),(.str [112,114,101], .bool true),(.str [114,101,116,117,114,110,115], .bool true),(.str [116,101,108], .bool true),(.str [116,104,101,110], .bool true),(.str [116,114,117,101], .bool true),(.str [118,97,114], .bool true),(.str [119,104,101,110], .bool true),(.str [120,111,114], .bool true)]):=Zk
structure r7(X:co):Prop where
 bf:X.bf=23
 get:∀b,b<22->X.G.get b=fo.get b
section
variable{X:co}{h:S ai}
def r7.Z(a:r7 X){b:Nat}(ah:b<22):Z X h b=fo.get b:=by
 have B:Nat.blt b (q X).bf=true:=by
  show Nat.blt b X.bf=true
  rw[a.bf];simp[Nat.blt];omega
 unfold Go.bn.Z
 rw[B,eU]
 exact a.get b ah
def r7.pJ(a:r7 X){b n:Nat}(ah:b<22){c:S z}{st:oS}(bS:fo.get b=some (.cells c n st))(U:Nat):aV X h (.ptr b U)=c.get U:=bX (by rw[a.Z ah];exact bS) U
def aoW(a:r7 X):mo X:=⟨⟨13,λh=>by rw[a.pJ Zd IP];rfl⟩,⟨12,λh=>by rw[a.pJ Zd wh];rfl⟩⟩
def ao2(a:r7 X):PV X:=⟨λh=>by
 rw[DQ,a.Z Zd,apz]
 rfl⟩
def avf(w:aW):∀L:List (aW×z),(L.map Prod.fst).Nodup->pd X h 9 (.str w) (L.map λB=>(z.str B.1,B.2))=some ((L.find? λB=>decide (B.1=w)).map Prod.snd):=by
 intro L
 induction L with
 |nil=>intro _;rfl
 |cons B L ag=>
  intro aM
  rw[ZE,List.nodup_cons]at aM
  simp only[ZE,pd,ag aM.2,aaL,BM,zf]
  by_cases a:B.1=w
  ·have cy:w=B.1:=a.symm
   have SU:L.find? (λB=>decide (B.1=w))=none:=by
    rw[zt]
    intro x af bP
    have:x.1=w:=by simpa using bP
    exact aM.1 (by rw[a, <-this];exact List.mem_map_of_mem af)
   simp[a,SU]
  ·have cy:¬w=B.1:=λal=>a al.symm
   simp[a,cy]
noncomputable def sT:List aW:=[[97,110,100],[101,108,115,101],[102,97,108,115,101],[102,98,121],[105,102],[108,101,116],[109,101,114,103,101],[110,111,100,101],[110,111,116],[111,114],[112,114,101],[114,101,116,117,114,110,115],[116,101,108],[116,104,101,110],[116,114,117,101],[118,97,114],[119,104,101,110],[120,111,114]]
def af8(s:aW):s∈sT↔s∈vq:=by
 constructor
 ·intro a
  have:∀w∈sT,w∈vq:=by decide
  exact this s a
 ·intro a
  have:∀w∈vq,w∈sT:=by decide
  exact this s a
def axF:((sT.map λs=>(s,z.bool true)).map λB:aW×z=>(z.str B.1,B.2))=[(.str [97,110,100], .bool true),(.str [101,108,115,101], .bool true),(.str [102,97,108,115,101], .bool true),(.str [102,98,121], .bool true),(.str [105,102], .bool true),(.str [108,101,116], .bool true),(.str [109,101,114,103,101], .bool true),(.str [110,111,100,101], .bool true),(.str [110,111,116], .bool true),(.str [111,114], .bool true),(.str [112,114,101], .bool true),(.str [114,101,116,117,114,110,115], .bool true),(.str [116,101,108], .bool true),(.str [116,104,101,110], .bool true),(.str [116,114,117,101], .bool true),(.str [118,97,114], .bool true),(.str [119,104,101,110], .bool true),(.str [120,111,114], .bool true)]:=rfl
def ao0(a:r7 X):Lv X:=⟨.map 16,λh=>⟨by rw[a.pJ Zd uC];rfl,λs=>by
 have bw:Z X h 16=_:=(a.Z Zd).trans apC
 rw[<-axF]at bw
 have Nz:((sT.map λs=>(s,z.bool true)).map Prod.fst).Nodup:=by decide
 simp only[l2,bw,OH,eU,avf s _ Nz]
 have b8:((sT.map λs=>(s,z.bool true)).find? λB=>decide (B.1=s)).map Prod.snd=if s∈sT then some (z.bool true)else none:=by
  by_cases aD:s∈sT
  ·rw[Zq aD]
   generalize sT=L at aD
   induction L with
   |nil=>cases aD
   |cons E L ag=>
    rw[ZE,zf]
    by_cases aB:E=s
    ·simp[aB]
    ·simp only[aB,Yw]
     exact ag ((Zr.1 aD).resolve_left (λB=>aB B.symm))
  ·rw[Zg aD]
   have:(sT.map λs=>(s,z.bool true)).find? (λB=>decide (B.1=s))=none:=by
    rw[zt]
    intro x af bP
    obtain⟨e,D,rfl⟩:=ZB.1 af
    have:e=s:=by simpa using bP
    exact aD (this▸D)
   rw[this];rfl
 rw[b8]
 have:decide (s∈vq)=decide (s∈sT):=by
  by_cases aD:s∈sT
  ·simp[aD,(af8 s).1 aD]
  ·have:¬s∈vq:=λal=>aD ((af8 s).2 al)
   simp[aD,this]
 rw[this]
 by_cases aD:s∈sT
 ·simp[aD,G5]
 ·simp[aD,G5]⟩⟩
def Hn{P:Nat->Prop}{b o aR n:Nat}{bu:List (List z)}{st:oS}(a:r7 X)(ah:b<22)(bS:fo.get b=some (.cells (S.ofList bu.flatten 0 .nil) n st))(aM:n=o*aR)(aC:bu.length=o)(V:∀r∈bu,r.length=aR)(aZ:o<=300000)(bW:P b):dZ X h P b (.slice b 0 o o) aR bu:=
 OW (st:=st) (by rw[a.Z ah,bS,aM]) aC V aZ bW
def aoZ(a:r7 X):s4 X:=⟨by rw[a.bf];decide,λh=>⟨14, .slice 14 0 18 18,by rw[a.pJ Zd F3];rfl,Hn a Zd apA rfl rfl Zd Zd (by rw[a.bf];decide)⟩⟩
def apE:fo.get 17=zG ((ao 0).map λU=>[z.str U.1, .int .i64 U.2]).flatten 4:=Zk
def apF:fo.get 18=zG ((ao 1).map λU=>[z.str U.1, .int .i64 U.2]).flatten 2:=Zk
def apG:fo.get 19=zG ((ao 2).map λU=>[z.str U.1, .int .i64 U.2]).flatten 12:=Zk
def apH:fo.get 20=zG ((ao 3).map λU=>[z.str U.1, .int .i64 U.2]).flatten 4:=Zk
def apI:fo.get 21=zG ((ao 4).map λU=>[z.str U.1, .int .i64 U.2]).flatten 2:=Zk
def Le(o:Nat):∀r∈(ao o).map λU=>[z.str U.1, .int .i64 U.2],r.length=2:=by
 intro r V
 obtain⟨U,_,rfl⟩:=ZB.1 V
 rfl
set_option maxRecDepth 20000 in
def aoY(a:r7 X):vG X:=⟨by rw[a.bf];decide,λh o aC=>by
 have bW:∀b,b<22->b<X.bf:=λb ah=>by rw[a.bf];omega
 match o,aC with
 |0,_=>exact⟨17, .slice 17 0 2 2,by rw[a.pJ Zd xX];rfl,Hn (P:=λe=>e<X.bf) (b:=17) (bu:=(ao 0).map λU=>[z.str U.1, .int .i64 U.2]) a Zd apE rfl rfl (Le 0) Zd (bW 17 Zd)⟩
 |1,_=>exact⟨18, .slice 18 0 1 1,by rw[a.pJ Zd xX];rfl,Hn (P:=λe=>e<X.bf) (b:=18) (bu:=(ao 1).map λU=>[z.str U.1, .int .i64 U.2]) a Zd apF rfl rfl (Le 1) Zd (bW 18 Zd)⟩
 |2,_=>exact⟨19, .slice 19 0 6 6,by rw[a.pJ Zd xX];rfl,Hn (P:=λe=>e<X.bf) (b:=19) (bu:=(ao 2).map λU=>[z.str U.1, .int .i64 U.2]) a Zd apG rfl rfl (Le 2) Zd (bW 19 Zd)⟩
 |3,_=>exact⟨20, .slice 20 0 2 2,by rw[a.pJ Zd xX];rfl,Hn (P:=λe=>e<X.bf) (b:=20) (bu:=(ao 3).map λU=>[z.str U.1, .int .i64 U.2]) a Zd apH rfl rfl (Le 3) Zd (bW 20 Zd)⟩
 |4,_=>exact⟨21, .slice 21 0 1 1,by rw[a.pJ Zd xX];rfl,Hn (P:=λe=>e<X.bf) (b:=21) (bu:=(ao 4).map λU=>[z.str U.1, .int .i64 U.2]) a Zd apI rfl rfl (Le 4) Zd (bW 21 Zd)⟩⟩
def anP(E b:Int):mu X h 20 3 (.int .i64 E) (.int .i64 b)=some (tJ E b):=Zk
def awn(E:Int):mv X 20 3 (.int .i64 E)=true:=Zk
def ave(w:Int):∀L:List (Int×z),(L.map Prod.fst).Nodup->pd X h 3 (.int .i64 w) (L.map λB=>(z.int .i64 B.1,B.2))=some ((L.find? λB=>decide (B.1=w)).map Prod.snd):=by
 intro L
 induction L with
 |nil=>intro _;rfl
 |cons B L ag=>
  intro aM
  rw[ZE,List.nodup_cons]at aM
  simp only[ZE,pd,ag aM.2,anP,yB,zf]
  by_cases a:B.1=w
  ·have SU:L.find? (λB=>decide (B.1=w))=none:=by
    rw[zt]
    intro x af bP
    have:x.1=w:=by simpa using bP
    exact aM.1 (by rw[a, <-this];exact List.mem_map_of_mem af)
   simp[a,SU]
  ·have cy:¬w=B.1:=λal=>a al.symm
   simp[a,cy]
noncomputable def Ht:List (Int×(Int×Bool×Bool×Bool)):=[1,2,3,4,5,6,19,20,23,24,25,26].map λo:Int=>(o,(tV o).getD (0,false,false,false))
def apB:fo.get 15=some (.look ((Ht.map λB=>(B.1,z.agg (pR B.2))).map λB=>(z.int .i64 B.1,B.2))):=Zk
def ayt(o:Int):(Ht.find? λB=>decide (B.1=o)).map Prod.snd=tV o:=by
 by_cases aC:o=1\/o=2\/o=3\/o=4\/o=5\/o=6\/o=19\/o=20\/o=23\/o=24\/o=25\/o=26
 ·rcases aC with rfl|rfl|rfl|rfl|rfl|rfl|rfl|rfl|rfl|rfl|rfl|rfl<;>decide
 ·have H:tV o=none:=by
   unfold tV
   rw[Zg Zo,Zg Zo,Zg Zo,Zg Zo,Zg Zo,Zg Zo,Zg Zo,Zg Zo,Zg Zo]
  rw[H]
  have:Ht.find? (λB=>decide (B.1=o))=none:=by
   rw[zt]
   intro x af bP
   have Dx:x.1=o:=by simpa using bP
   obtain⟨e,D,rfl⟩:=ZB.1 af
   simp only at Dx
   subst Dx
   simp only[Zr,ZL,Yx]at D
   exact aC D
  rw[this];rfl
def ao1(a:r7 X):Ak X:=⟨λh=>⟨.map 15,by rw[a.pJ Zd MQ];rfl,λo=>by
 have bw:Z X h 15=_:=(a.Z Zd).trans apB
 have Nz:((Ht.map λB=>(B.1,z.agg (pR B.2))).map Prod.fst).Nodup:=by decide
 simp only[l2,bw,awn,eU,ave o _ Nz]
 have b8:((Ht.map λB=>(B.1,z.agg (pR B.2))).find? λB=>decide (B.1=o)).map Prod.snd=(tV o).map λs=>z.agg (pR s):=by
  rw[<-ayt o,List.find?_map]
  have:((λB:Int×z=>decide (B.1=o))∘λB:Int×(Int×Bool×Bool×Bool)=>(B.1,z.agg (pR B.2)))=λB=>decide (B.1=o):=rfl
  rw[this]
  cases Ht.find? (λB=>decide (B.1=o))<;>rfl
 rw[b8]
 cases tV o with
 |none=>rfl
 |some s=>rfl⟩⟩
def ao3(a:r7 X):HS X:=⟨aoW a,ao0 a,ao2 a⟩
end
end
end Go.Proofs.YtendhgofocgngaaGreatDoor

