/- Part of the proof of the last text; no conditions -/
import Derived.Test.YtpeabpmnlmaabaaGreatDoorYi
set_option maxHeartbeats 8000000
set_option linter.all false
namespace Go.Proofs.YtpeabpmnlmaabaaGreatDoor
open Go.bd Go.aT
noncomputable section
def C2:List gt->Option Int
 |[]=>none
 |aj::l=>if 200<hk 201 aj.right then some aj.at_ else C2 l
def sP:List Go.aT.Node->Option (Int×Int)
 |[]=>none
 |g::l=>if 256<g.d4.length+g.out.length+g.loc.length\/4096<g.eqs.length then some (30,g.at_)else match C2 g.eqs with
  |some H=>some (22,H)
  |none=>sP l
def qR(am:List Go.aT.Node):Option (Int×Int):=match am[64]? with
 |some g=>some (30,g.at_)
 |none=>sP am
section
variable{X:cl}{h S' aI aM:Q af}{j an aO aZ aH bP:Nat}{aW:List Tok}{i:Nat}
def au2(au:dj X){P:Nat->Prop}{E:bD}{v:D}(aE:(o X).a2<=j)(bC:cE X h P E v)(bq:∀e,P e->e<j):
 aU X 46 [v] h j (λac S' an=>ac= .Z (hk 201 E:Nat)/\ba X h j S' an) (λ_ _ _=>False):=by
 refine zz au (ana X) ?_
 rw[anb]
 unfold aa3
 exact(au3 au 201 Zo h j P E v aE bC bq)
def ayZ(au:dj X){P:Nat->Prop}{am:List Go.aT.Node}{v:D}(aE:(o X).a2<=j)(b2:oS X h P am v)(bq:∀e,P e->e<j):
 aU X 25 [v] h j (λac S' an=>qR am=none/\ac= .tuple []/\ba X h j S' an) (λac S' an=>∃z H,qR am=some (z,H)/\ac=pL z H/\ba X h j S' an):=by
 refine zz au (amy X) ?_
 rw[amz]
 unfold aaJ
 obtain⟨b,aS,cO,bK,rfl,om,a0,cB,wo⟩:=b2
 have x6:=wo.wide
 have d0:=cB.len
 have hU:=cB.many
 rw[x6.1]at d0 hU
 by_cases HU:64<am.length
 ·obtain⟨g,afC⟩:∃g,am[64]? =some g:=⟨_,Ze HU⟩
  obtain⟨row,e9,jK⟩:=wo.get 64 g afC
  have dp:=cB.fx 64 Zo
  obtain⟨c7,dv,XC,eH,bY,co,cY,fM,ajl,rfl,_⟩:=jK
  have ax:=cB.cell 64 _ 1 _ e9 rfl
  have d:decide ((64:Int)<(am.length:Int))=true:=by simp;omega
  have avq:gy 6 aS (.Z 64)=some (.ptr cO (64*6)):=dp
  refine fO @a0 @d0 @d @avq @ax ⟨?_⟩
  refine⟨⟨30,g.at_,by simp[qR,afC],rfl,ba.refl _ _⟩⟩
 ·have aC:qR am=sP am:=by simp[qR,Z4 (by omega:am.length<=64)]
  have d:decide ((64:Int)<(am.length:Int))=false:=by simp;omega
  rw[aC]
  refine dI @a0 @d0 @d ⟨?_⟩
  refine fh (λm I S' aN=>∃(S:Nat),I.g 24=some aS/\I.g 25=some (.Z (am.length:Int))/\I.g 26=some (.Z (S:Int))/\S+m=am.length/\ba X h j S' aN/\sP am=sP (am.drop S))
   am.length ⟨0,a8,a8,fq,Zo,ba.refl _ _,rfl⟩ ?_
  rintro m I aM aZ ⟨S,vn,m5,lT,bE,bx,EZ⟩
  have fJ:=bx.le
  have cF:=zx S
  cases m with
  |zero=>
   have cy:=zt S am.length
   rw[ZC Zo]at EZ
   refine dI @lT @m5 @cy ⟨?_⟩
   exact⟨EZ,rfl,bx⟩
  |succ m=>
   have cy:=zu S am.length
   obtain⟨g,nP⟩:=zv am S
   have aF:am.drop S=g::am.drop (S+1):=by
    obtain⟨ae,B⟩:=Zc.1 nP
    rw[Zq ae,B]
   rw[aF]at EZ
   obtain⟨row,e9,jK⟩:=wo.get S g nP
   have dp:=cB.fx S Zo
   have hz:=(cB.aa λe B=>bx.aa e (bq e B)).row Zd e9
   have avW:=jK.aa (bu:=P) (λe B=>bx.aa e (bq e B)) (λ_ a=>a)
   have yc:=jK.jf
   obtain⟨c7,dv,XC,eH,bY,co,cY,fM,ajl,rfl,cN,cA,eb,fW,m2⟩:=avW
   have eo:=cN.len;have cR:=cA.len;have eQ:=eb.len;have hl:=fW.len
   have fu:=cN.many;have gj:=cA.many;have mW:=eb.many;have WK:=fW.many
   have aj8:=m2.wide
   rw[Zi]at eo cR eQ fu gj mW
   rw[aj8.1]at hl WK
   have f0:bn .add (.Z (g.d4.length:Int)) (.Z (g.out.length:Int))=some (.Z ((g.d4.length+g.out.length:Nat):Int)):=by rw[en Zo Zo];rfl
   have kj:bn .add (.Z ((g.d4.length+g.out.length:Nat):Int)) (.Z (g.loc.length:Int))=some (.Z ((g.d4.length+g.out.length+g.loc.length:Nat):Int)):=by rw[en Zo Zo];rfl
   refine hu @lT @m5 @vn @cy @dp @hz ⟨?_⟩
   refine f8 (iH (z:=6) (b:=aZ) (W:=0) (n:=6) (c:=Q.ofList [.str [], .Z 0, .aV, .aV, .aV, .aV] 0 .nil) (a7 Zo) Zo rfl Zd Zd yc) ?_
   generalize fl:bj X _ aZ _=a1
   have xO:U X a1 aZ=some (.cells (dS (Q.ofList [.str [], .Z 0, .aV, .aV, .aV, .aV] 0 .nil) 0 [.str g.name, .Z g.at_,c7,dv,XC,eH]) 6 .own):=by rw[<-fl];exact a7 Zo
   have ck:ba X h j a1 (aZ+1):=bx.trans (by rw[<-fl];exact dz)
   have c1:∀e,P e->U X a1 e=U X h e:=λe B=>ck.aa e (bq e B)
   clear fl
   have cX:aP X a1 (.ptr aZ 1)=some (.Z g.at_):=by rw[bc xO];rfl
   have dN:aP X a1 (.ptr aZ 2)=some c7:=by rw[bc xO];rfl
   have g6:aP X a1 (.ptr aZ 3)=some dv:=by rw[bc xO];rfl
   have nJ:aP X a1 (.ptr aZ 4)=some XC:=by rw[bc xO];rfl
   have kB:aP X a1 (.ptr aZ 5)=some eH:=by rw[bc xO];rfl
   by_cases atL:256<g.d4.length+g.out.length+g.loc.length
   ·have e1:decide ((256:Int)<((g.d4.length+g.out.length+g.loc.length:Nat):Int))=true:=by simp;omega
    refine d9 @cX @dN @g6 @nJ @kB @eo (Za @cR (Za @eQ (Za @hl (Za @f0 (Za @kj @e1))))) ⟨?_⟩
    exact⟨⟨30,g.at_,by rw[EZ,sP,Zr (.inl atL)],rfl,ck⟩⟩
   have e1:decide ((256:Int)<((g.d4.length+g.out.length+g.loc.length:Nat):Int))=false:=by simp;omega
   by_cases atM:4096<g.eqs.length
   ·have i6:decide ((4096:Int)<(g.eqs.length:Int))=true:=by simp;omega
    refine d9 @cX @dN @g6 @nJ @kB @eo (Za @cR (Za @eQ (Za @hl (Za @f0 (Za @kj (Za @e1 @i6)))))) ⟨?_⟩
    exact⟨⟨30,g.at_,by rw[EZ,sP,Zr (.inr atM)],rfl,ck⟩⟩
   have i6:decide ((4096:Int)<(g.eqs.length:Int))=false:=by simp;omega
   refine d9 @cX @dN @g6 @nJ @kB @eo (Za @cR (Za @eQ (Za @hl (Za @f0 (Za @kj (Za @e1 (Za @i6 (Za @vn (Za @m5 @lT))))))))) ⟨?_⟩
   have ag:sP am=(match C2 g.eqs with|some H=>some (22,H)|none=>sP (am.drop (S+1))):=by rw[EZ,sP,Zh Zo]
   have PL:=fW.aa (S':=h) (λe B=>(bx.aa e (bq e B)).symm)
   have aBi:=m2.aa (S':=h) (bu:=P) (λe B=>(bx.aa e (bq e B)).symm) (λ_ a=>a)
   refine fh (λmW I S' aN=>∃(i:Nat),I.g 24=some aS/\I.g 25=some (.Z (am.length:Int))/\I.g 26=some (.Z (S:Int))/\I.g 53=some eH/\I.g 54=some (.Z (g.eqs.length:Int))/\I.g 55=some (.Z (i:Int))/\i+mW=g.eqs.length/\ba X h j S' aN/\C2 g.eqs=C2 (g.eqs.drop i))
    g.eqs.length ⟨0,aL vn,aL m5,aL lT,a8,a8,fq,Zo,ck,rfl⟩ ?_
   clear vn m5 lT cX dN g6 nJ kB xO c1 ck
   rintro mW I a1 bi ⟨i,vn,m5,lT,q2,kO,q3,aG,ck,EY⟩
   have iO:=ck.le
   cases mW with
   |zero=>
    have gu:=zt i g.eqs.length
    rw[ZC Zo]at EY
    refine fO @q3 @kO @gu @lT @cF ⟨?_⟩
    refine⟨m,Zo,S+1,aL vn,aL m5,a8,Zo,ck, ?_⟩
    rw[ag,EY];rfl
   |succ mW=>
    have gu:=zu i g.eqs.length
    have qy:=zx i
    obtain⟨aj,ye⟩:=zv g.eqs i
    have auS:g.eqs.drop i=aj::g.eqs.drop (i+1):=by
     obtain⟨ae,B⟩:=Zc.1 ye
     rw[Zq ae,B]
    rw[auS,C2]at EY
    obtain⟨row,e9,tW⟩:=aBi.get i aj ye
    have avr:=fW.fx i (by rw[aj8.1];omega)
    have LN:=(PL.aa λe B=>ck.aa e (bq e B)).row Zd e9
    obtain⟨apy,Kc,l0,pE,kc,rfl,_,_,awC,jX⟩:=tW
    refine hu @q3 @kO @q2 @gu @avr @LN ⟨?_⟩
    refine f8 (iH (z:=4) (b:=bi) (W:=0) (n:=4) (c:=Q.ofList [.aV, .aV, .Z 0, .cJ] 0 .nil) (a7 Zo) Zo rfl Zd Zd jX) ?_
    generalize eS:bj X _ bi _=bA
    have KS:U X bA bi=some (.cells (dS (Q.ofList [.aV, .aV, .Z 0, .cJ] 0 .nil) 0 [apy,Kc, .Z aj.at_,kc]) 4 .own):=by rw[<-eS];exact a7 Zo
    have c0:ba X a1 bi bA (bi+1):=by rw[<-eS];exact dz
    have HV:=ck.trans c0
    clear eS
    have g6:aP X bA (.ptr bi 3)=some kc:=by rw[bc KS];rfl
    refine cd @g6 ⟨?_⟩
    refine(au2 au Zo (awC.aa λe B=>HV.aa e (bq e B)) (λe B=>zs (bq e B))).Zm ?_
    rintro vs bM bX ⟨rfl,dC⟩
    have ik:=dC.le
    have dN:aP X bM (.ptr bi 2)=some (.Z aj.at_):=by rw[bc (by rw[dC.aa _ Zo];exact KS)];rfl
    by_cases gx:200<hk 201 aj.right
    ·have g8:decide ((200:Int)<((hk 201 aj.right:Nat):Int))=true:=by simp;omega
     rw[Zr gx]at EY
     refine cI @g8 @dN ⟨?_⟩
     exact⟨⟨22,aj.at_,by rw[ag,EY],rfl,HV.trans dC⟩⟩
    ·have g8:decide ((200:Int)<((hk 201 aj.right:Nat):Int))=false:=by simp;omega
     rw[Zh gx]at EY
     refine dI @g8 @q3 @qy ⟨?_⟩
     exact⟨mW,Zo,i+1,aL vn,aL m5,aL lT,aL q2,aL kO,a8,Zo,HV.trans dC,EY⟩
end
end
open Go.bd
noncomputable section
variable (X : cl) (h : Q af) (j : Nat) (ah av : bJ) (a0 bb b5 a3 a4 a5 hR io ip : D)
def aaG(a:aK)(b:D)(c:Q af)(d:Nat)(e f:bJ):Prop:=
 By d a c λc d g=>ap (gz b) λh=>ap (bn .gtr h (.Z 65536)) λh=>bk (λb c d=>e4 b λg=>ap (BX a c g) λg=>ap (e6 [.str [], .Z 0] [(0,1,g)]) λg=>ha a c d g λc d g=>aU a 38 [c] d g (λ_ d g=>bk (λb c d=>fm b 5 4 λf g=>g5 g 1 a c λ_ g=>RM 7 2 g λg=>RN g d a c f λc d f=>DI λg=>jy b 3 a d 2 g λa b=>e (.tuple [c,b]) a f) λh=>e2 (λb c d g=>DH g 10 c 4 1 a d 0 λg i j=>ap (nq j) λj=>ap (bn .lss i j) λi=>bk (λc d g=>bk (λc d e=>vz c 4 a 38 d e f λ_ a d=>b c a d) λb=>oP c λh=>DH g 10 c 4 0 a d 1 λg i j=>ap (oB i j) λi=>bk (λc d g=>cw (c 6) λh=>jq a h [] d g (λd f g=>uA d g a f λd f g h=>ap (gm .not d) λi=>bk (λc d e=>kz c 4 1 a d λ_ _ f=>cw (c 8) λg=>tc 2 g a d f λd=>fb (e+11) λe=>kz c 4 1 a d λf _ g=>ic c 8 1 a d λ_ h=>ap (nq h) λh=>ap (bn .add g h) λg=>r8 f 1 a d g λd=>fm c 5 8 λf g=>ap (cG a d 7 g) λg=>RN g e a d f λa d e=>b (Z c 5 a) d e) λb=>aR i (fb (g+7) λb=>kz c 4 1 a h λ_ _ d=>JK 20 d λd=>jy c 3 a h 2 d λa c=>e (.tuple [.aV,c]) a b) (b (zB c 8 f 9 d 59 i) h g)) f) λb=>aU a 40 [i] d g (λd e g=>bk b λb=>aR d (oP c λa=>b (zC c 6 (.func (.func 39) [h] []) 7 i 43 d 6 (.func (.func 41) [a] [])) e g) (aU a 42 [i] e g (λa e f=>bk b λb=>aR a (oP c λg=>b (Z (zC c 6 (.func (.func 39) [h] []) 7 i 43 d 48 a) 6 (.func (.func 43) [g] [])) e f) (b (zC c 6 (.func (.func 39) [h] []) 7 i 43 d 48 a) e f)) f)) f) λa=>aR i (a (Z c 29 i) d g) (h (Z c 29 i) d g)) (zA b 4 c 5 .aV) d g) f) λf=>aR h (ap (e6 [.Z 0, .Z 0] [(0,1, .Z 3)]) λb=>r6 a d 2 c b λa b=>e (.tuple [.aV,b]) a g) (f (zB (cP [b]) 2 .aV 3 c 12 h) d g)
def amv:c2 X 22 [a0] h j ah av=aaG X a0 h j ah av:=Zk
def amu:cQ X 22 1=true:=Zk
def aaV(a:aK)(b:D)(c:Q af)(d:Nat)(e f:bJ):Prop:=
 bk (λ_ a b=>e (.tuple []) a b) λg=>e2 (λb c d h=>DH h 10 c 0 1 a d 0 λh i j=>ap (nq j) λj=>ap (bn .lss i j) λi=>bk (λc d g=>bk b λb=>bk b λb=>DH g 12 c 0 0 a d 1 λg h i=>ap (oB h i) λh=>aU a 60 [.str [32,9,10,13],h] d g (λd g h=>DK d λd=>bk b λb=>aR d (Nu c a g λa=>b (Z c 12 d) a h) (DH h 11 c 0 0 a g 1 λh i j=>ap (nw i (some j) none) λi=>aU a 61 [i, .str [45,45]] g h (λg h i=>bk b λb=>aR g (fb (i+15) λe=>kz c 0 1 a h λi j k=>fm c 0 0 λl m=>g5 m 1 a h λ_ m=>aU a 62 [l,m, .func (.func 63) [] []] h e (λe f h=>ap (nq e) λe=>ap (bn .add k e) λe=>lx i 1 λi=>ap (aP a f j) λj=>gb j (some k) (ql a f i e λa=>b (zA c 12 d 31 g) a h)) f) (e (.tuple []) h i)) f)) f) λa=>aR i (a (Z c 11 i) d h) (g (Z c 11 i) d h)) (cP [b]) c d
def amT:c2 X 38 [a0] h j ah av=aaV X a0 h j ah av:=Zk
def amS:cQ X 38 1=true:=Zk
def aaW(a:aK)(b:D)(c:Q af)(d:Nat)(e f:bJ):Prop:=
 yP d a c λc d g=>ap (cG a d 17 (.ptr 0 0)) λh=>bk (λb c d=>RO λf=>jy b 2 a c 7 f λa b=>e (.tuple [b, .zF]) a d) λi=>e2 (λb c d g=>JL c 7 17 λh=>bk (λc d g=>bk (λa c d=>ge a 7 λe=>b (Z a 7 e) c d) λb=>fm c 6 7 λh i=>ap (va false 17 1 h i) λh=>DH g 11 c 0 0 a d 1 λg i j=>ap (nw i (some j) none) λi=>aU a 61 [i,h] d g (λd f g=>bk b λb=>aR d (RM 6 1 h λb=>jy c 2 a f 7 b λa b=>e (.tuple [b, .zT]) a g) (b (zA c 5 h 20 d) f g)) f) λa=>aR h (a (Z c 8 h) d g) (i (Z c 8 h) d g)) (zC (cP [b]) 2 c 3 .zF 6 h 7 (.Z 0)) d g
def amV:c2 X 39 [a0] h j ah av=aaW X a0 h j ah av:=Zk
def amU:cQ X 39 1=true:=Zk
def aaX(_:aK)(a:D)(b:Q af)(c:Nat)(d _:bJ):Prop:=
 ap (bn .geq a (.int .u8 48)) λe=>js e a b c λa b c=>d5 e (bn .leq a (.int .u8 57)) b c λa b c=>cS (λa=>d a b c) λb=>aR e (b a) (b .zF)
def amZ:c2 X 40 [a0] h j ah av=aaX X a0 h j ah av:=Zk
def amY:cQ X 40 1=true:=Zk
def aaY(a:aK)(b:D)(c:Q af)(d:Nat)(e f:bJ):Prop:=
 yP d a c λc d g=>g5 b 1 a d λ_ h=>aU a 62 [b,h, .func (.func 40) [] []] d g (λd g h=>aU a 64 [d, .Z 10, .Z 64] g h (λg h i=>hs g λg j=>ap (c5 a h .neq 139 true j .nilIface) λk=>hf k d h i λh i l=>eU k (nq h) i l λh i l=>eU k (bn .gtr h (.Z 20)) i l λh i l=>cS (λh=>bk (λb c d=>fm b 0 0 λg h=>g5 h 1 a c λ_ h=>oP b λi=>ap (nq i) λi=>ap (bn .add h i) λh=>aU a 62 [g,h, .func (.func 65) [] []] c d (λc d g=>GY a d c λh=>bk (λb c d=>vz b 7 a 66 c d f λc d g=>hs c λc h=>JM g λi=>nB a d g i.1 i.2 3 c λc d g=>fb (d+19) λd=>fm b 4 7 λi j=>ap (c5 a g .add 9 false i j) λk=>n9 b λl=>kS a g c λm=>ap (e6 [.Z 0, .str [], .Z 0, .int .u64 0, .zF, .zF, .Z 0] [(0,1, .Z 5),(1,1,k),(3,1,l),(4,3,m)]) λl=>JN h 0 c g a λg n=>iP h (gm .not g) n λg n=>cS (λg=>iP g (cG a n 3 c) n λh n=>Fx g (b 5) n λn o=>iQ g (λb=>aU a 67 [h,n] o d b f) o d λd f h=>cS (λd=>ap (c5 a f .add 9 false i j) λg=>gb g (some k) (kS a f c λc=>gb c (some m) (jy b 2 a f 7 l λa b=>e (.tuple [b,d]) a h))) λa=>aR g (a d) (a .zF)) λa=>aR h (a g) (a .zF)) λf=>aR h (fm b 4 5 λc f=>ap (e6 [.Z 0, .str [], .Z 0, .int .u64 0, .zF, .zF, .Z 0] [(0,1, .Z 4),(1,1,c),(3,1,f)]) λc=>jy b 2 a d 7 c λa b=>e (.tuple [b, .zT]) a g) (f (zA b 7 c 39 h) d g)) f) λf=>aR h (RO λb=>r6 a i 7 c b λa b=>e (.tuple [b, .zF]) a l) (f (zA (zC (cP [b]) 2 c 3 .zF 4 d 5 g) 6 j 27 h) i l)) λa=>aR k (a .zT) (a h)) f) f
def am1:c2 X 41 [a0] h j ah av=aaY X a0 h j ah av:=Zk
def am0:cQ X 41 1=true:=Zk
def aaZ(_:aK)(a:D)(b:Q af)(c:Nat)(d _:bJ):Prop:=
 ap (bn .geq a (.int .u8 97)) λe=>js e a b c λb c f=>d5 e (bn .leq b (.int .u8 122)) c f λb c f=>cS (λb=>hf b a c f λc e f=>eU b (bn .geq c (.int .u8 65)) e f λc e f=>hf b c e f λc e f=>js c a e f λe f g=>d5 c (bn .leq e (.int .u8 90)) f g λe f g=>j7 b (λa=>cS (λb=>a b f g) λa=>aR c (a e) (a .zF)) f g λc e f=>cS (λb=>hf b a e f λa c e=>eU b (bn .eql a (.int .u8 95)) c e λa c e=>cS (λa=>d a c e) λc=>aR b (c .zT) (c a)) λa=>aR b (a .zT) (a c)) λa=>aR e (a b) (a .zF)
def am3:c2 X 42 [a0] h j ah av=aaZ X a0 h j ah av:=Zk
def am2:cQ X 42 1=true:=Zk
def aa0(a:aK)(b:D)(c:Q af)(d:Nat)(e f:bJ):Prop:=
 yP d a c λc d g=>g5 b 1 a d λ_ h=>aU a 62 [b,h, .func (.func 65) [] []] d g (λd g h=>RM 1 1 d λi=>xb h a g i λg h i=>aU a 66 [d] i h (λh i j=>hs h λh k=>JM j λl=>nB a i j l.1 l.2 3 h λh i j=>bk (λb c d=>lY b 5 a c 7 λf=>oP b λg=>ap (nq g) λg=>ap (bn .leq g (.Z 32)) λg=>jy b 2 a c 7 f λa b=>e (.tuple [b,g]) a d) λe=>aR k (fb (i+5) λf=>kS a j h λi=>ap (gr 0 g) λl=>r7 a j l 3 λj=>ap (gr 4 g) λl=>kS a j h λm=>gb m (some i) (ap (gq a j 3 l i) λa=>e (zB (zC (cP [b]) 2 c 3 .zF 4 d 5 g) 6 h 7 k 21 k) a f)) (aU a 68 [d] j i (λf i j=>bk e λe=>aR f (ap (gr 0 g) λl=>r7 a i l 2 λa=>e (zC (zC (cP [b]) 2 c 3 .zF 4 d 5 g) 6 h 7 k 21 k 26 f) a j) (e (zC (zC (cP [b]) 2 c 3 .zF 4 d 5 g) 6 h 7 k 21 k 26 f) i j)) f)) f) f
def am5:c2 X 43 [a0] h j ah av=aa0 X a0 h j ah av:=Zk
def am4:cQ X 43 1=true:=Zk
def abj(a:aK)(b c:D)(d:Q af)(e:Nat)(f g:bJ):Prop:=
 aU a 85 [b,c] d e f g
def anD:c2 X 60 [a0,bb] h j ah av=abj X a0 bb h j ah av:=Zk
def anC:cQ X 60 2=true:=Zk
def abk(a:aK)(b c:D)(d:Q af)(e:Nat)(f g:bJ):Prop:=
 aU a 86 [b,c] d e f g
def anF:c2 X 61 [a0,bb] h j ah av=abk X a0 bb h j ah av:=Zk
def anE:cQ X 61 2=true:=Zk
def abl(a:aK)(b c d:D)(e:Q af)(f:Nat)(g h:bJ):Prop:=
 bk (λb c d=>r9 b a c λa=>fm b 1 7 λb e=>ap (nw a (some b) (some e)) λa=>g a c d) λg=>e2 (λb c d e=>fm c 7 0 λf i=>g5 i 0 a d λ_ i=>ap (nq i) λi=>ap (bn .lss f i) λf=>mD f (c 2) d e λd e i=>mD f (c 0) e i λe i j=>Bw f e i j 0 a λe i j=>mD f (c 7) i j λi j k=>d5 f (oB e i) j k λe i j=>iQ f (λb=>jq a d [e] i j b h) i j λa d e=>cS (λa=>bk (λa c d=>bk b λb=>ge a 7 λe=>b (Z a 7 e) c d) λb=>aR a (b (Z c 25 a) d e) (g (Z c 25 a) d e)) λb=>aR f (b a) (b .zF)) (zA (cP [b,c,d]) 6 (.str []) 7 c) e f
def anH:c2 X 62 [a0,bb,b5] h j ah av=abl X a0 bb b5 h j ah av:=Zk
def anG:cQ X 62 3=true:=Zk
def abm(_:aK)(a:D)(b:Q af)(c:Nat)(d _:bJ):Prop:=
 ap (bn .neq a (.int .u8 10)) λa=>d a b c
def anJ:c2 X 63 [a0] h j ah av=abm X a0 h j ah av:=Zk
def anI:cQ X 63 1=true:=Zk
def abn(a:aK)(b c d:D)(e:Q af)(f:Nat)(g h:bJ):Prop:=
 aU a 87 [b,c,d] e f (λe f i=>hs e λe j=>ap (c5 a f .neq 139 true j .nilIface) λk=>bk (λa b c=>cw (a 8) λa=>g (.tuple [a, .nilIface]) b c) λl=>aR k (aU a 88 [.str [80,97,114,115,101,85,105,110,116],b,c,d,j] f i (λa b c=>g (.tuple [e,a]) b c) h) (l (Z (zC (cP [b,c,d]) 6 (.int .u64 0) 7 .nilIface 8 e 9 j) 18 k) f i)) h
def anL:c2 X 64 [a0,bb,b5] h j ah av=abn X a0 bb b5 h j ah av:=Zk
def anK:cQ X 64 3=true:=Zk
def abo(a:aK)(b:D)(c:Q af)(d:Nat)(e f:bJ):Prop:=
 aU a 42 [b] c d (λc d g=>hf c b d g λb d g=>j7 c (λc=>aU a 40 [b] d g c f) d g λa b d=>cS (λa=>e a b d) λb=>aR c (b .zT) (b a)) f
def anN:c2 X 65 [a0] h j ah av=abo X a0 h j ah av:=Zk
def anM:cQ X 65 1=true:=Zk
def abp(a:aK)(b:D)(c:Q af)(d:Nat)(e f:bJ):Prop:=
 JM d λg=>gO a c d g.1 g.2 λc d g=>ap (c5 a d .eql 9 true b (.str [98,111,111,108])) λh=>bk (λb c d=>e4 b λg=>GY a c g λg=>sM g (b 0) c d λc d h=>eU g (oB c (.Z 0)) d h λc d h=>eU g (bn .neq c (.int .u8 117)) d h λc d h=>hf g c d h λc d h=>mD c (b 0) d h λd h i=>d5 c (oB d (.Z 0)) h i λd h i=>d5 c (bn .neq d (.int .u8 105)) h i λd h i=>j7 g (λa=>cS (λb=>a b h i) λa=>aR c (a d) (a .zF)) h i λc d h=>cS (λc=>bk (λb c d=>Bt b 1 λg=>aU a 89 [g] c d (λc d g=>hs c λc h=>e4 b λi=>Ns i 105 λi=>ap (e6 [.zF, .zF, .Z 0] [(1,1,i),(2,1,c)]) λi=>JM g λj=>nB a d g j.1 j.2 3 i λd g i=>ap (c5 a i .neq 139 true h .nilIface) λj=>eU j (cG a i 3 d) i g λg i k=>j7 j (λb=>aU a 90 [g] i k b f) i k λg i k=>eU j (gm .not g) i k λg i k=>cS (λg=>eU g (cG a i 3 d) i k λi j k=>j7 g (λb=>aU a 91 [i] j k b f) j k λf i j=>sM g (b 0) i j λi j k=>eU g (c5 a j .neq 9 false f i) j k λf i j=>cS (λf=>bk (λb c d=>lY b 6 a c 3 λf=>jy b 2 a c 3 f λa b=>e (.tuple [b, .zT]) a d) λg=>aR f (ap (e6 [.zF, .zF, .Z 0] []) λc=>jy b 2 a i 3 c λa b=>e (.tuple [b, .zF]) a j) (g (zC b 4 c 5 h 6 d 46 f) i j)) λa=>aR g (a .zT) (a f)) λa=>aR j (a .zT) (a g)) f) λf=>aR c (ap (e6 [.zF, .zF, .Z 0] []) λc=>jy b 2 a d 3 c λa b=>e (.tuple [b, .zF]) a h) (f (Z b 21 c) d h)) λa=>aR g (a .zT) (a c)) λf=>aR h (ap (e6 [.zF, .zF, .Z 0] [(0,1, .zT),(2,1, .Z 1)]) λb=>r6 a d 3 c b λa b=>e (.tuple [b, .zT]) a g) (f (zB (cP [b]) 2 c 3 .zF 8 h) d g)
def anP:c2 X 66 [a0] h j ah av=abp X a0 h j ah av:=Zk
def anO:cQ X 66 1=true:=Zk
def abq(a:aK)(b c:D)(d:Q af)(e:Nat)(f g:bJ):Prop:=
 ha a d e b λd e h=>e0 1 d a e λ_ i=>bk (λb c d=>lY b 2 a c 3 λe=>te b λb=>aU a 92 [e,b] c d f g) λg=>aR i (e0 2 d a e λ_ j=>Bs j λj=>ap (e6 [.zF, .zF, .Z 0] [(2,1,j)]) λj=>ap (gq a e 3 d j) λe=>e0 2 d a e λ_ a=>md a 0 g λa g=>aR a (ap (bn .eql c (.int .u64 0)) λa=>f a e h) (g (zC (cP [b,c]) 2 d 4 .zF 6 i 13 a) e h)) (g (zB (cP [b,c]) 2 d 4 .zF 6 i) e h)
def anR:c2 X 67 [a0,bb] h j ah av=abq X a0 bb h j ah av:=Zk
def anQ:cQ X 67 2=true:=Zk
def abr(a:aK)(b:D)(c:Q af)(d:Nat)(e _:bJ):Prop:=
 ap (aP a c (.ptr 1 0)) λf=>ap (nU a c 9 .zF f b false) λa=>e a c d
def anT:c2 X 68 [a0] h j ah av=abr X a0 h j ah av:=Zk
def anS:cQ X 68 1=true:=Zk
def abM(a:aK)(b c:D)(d:Q af)(e:Nat)(f g:bJ):Prop:=
 aU a 108 [b,c] d e f g
def aon:c2 X 85 [a0,bb] h j ah av=abM X a0 bb h j ah av:=Zk
def aom:cQ X 85 2=true:=Zk
def abN(a:aK)(b c:D)(d:Q af)(e:Nat)(f _:bJ):Prop:=
 ap (nq b) λg=>ap (nq c) λh=>ap (bn .geq g h) λg=>js g b d e λb d e=>js g c d e λd e h=>d5 g (nq d) e h λd e h=>d5 g (nw b none (some d)) e h λb d e=>js g c d e λc d e=>d5 g (c5 a d .eql 9 false b c) d e λa b c=>cS (λa=>f a b c) λb=>aR g (b a) (b .zF)
def aop:c2 X 86 [a0,bb] h j ah av=abN X a0 bb h j ah av:=Zk
def aoo:cQ X 86 2=true:=Zk
def abO(a:aK)(b c d:D)(e:Q af)(f:Nat)(g h:bJ):Prop:=
 GY a e b λi=>bk (λb c d=>tb b 1 0 λe=>e4 b λf=>bk (λb c d=>tb b 2 0 λe=>bk (λb c d=>te b λe=>bk (λb c d=>RQ b 2 λe=>ap (bn .shl (.int .u64 1) e) λe=>ap (bn .sub e (.int .u64 1)) λe=>e4 b λf=>h0 (Q9 a c d f) c d λc d f=>hO c (λb c d=>cw (b 12) λe=>mD e (b 9) c d λc d f=>iQ e (λb=>aU a 110 [c] d f b h) d f λa c d=>d5 e (gm .not a) c d λa c d=>cS (λa=>bk (λa b c=>cw (a 13) λa=>g (.tuple [a, .nilIface]) b c) λe=>aR a (pt 2 λa=>g (.tuple [.int .u64 0,a]) c d) (e (Z b 169 a) c d)) λb=>aR e (b a) (b .zF)) λi j=>e2 (λb c d e=>gW c 101 100 λf=>bk (λc d e=>td (λa c d=>ge a 101 λe=>b (Z a 101 e) c d) c 99 101 a d λb f=>bk (λa c d=>fm a 16 1 λe f=>ap (og .u8 f) λf=>ap (bn .geq e f) λe=>bk (λa c d=>fm a 13 10 λe f=>ap (bn .geq e f) λe=>bk (λa c d=>fm a 13 1 λe f=>ap (og .u64 f) λf=>ap (bn .mul e f) λe=>RQ a 16 λf=>ap (bn .add e f) λf=>ap (bn .lss f e) λh=>hf h f c d λc d i=>sM h (a 11) d i λd i j=>eU h (bn .gtr c d) i j λc d i=>cS (λc=>bk (λa c d=>cw (a 17) λe=>b (Z a 13 e) c d) λb=>aR c (cw (a 11) λa=>pt 1 λb=>g (.tuple [a,b]) d i) (b (zB a 13 e 17 f 159 c) d i)) λa=>aR h (a .zT) (a c)) λb=>aR e (cw (a 11) λa=>pt 1 λb=>g (.tuple [a,b]) c d) (b (Z a 141 e) c d)) λb=>aR e (pt 2 λa=>g (.tuple [.int .u64 0,a]) c d) (b (Z a 137 e) c d)) λi=>ap (bn .eql f (.int .u8 95)) λj=>mD j (c 8) d e λd e k=>cS (λd=>bk i λi=>aR d (b (zC c 15 f 16 (.int .u8 0) 106 d 12 .zT) e k) (ap (bn .leq (.int .u8 48) f) λb=>js b f e k λe j k=>d5 b (bn .leq e (.int .u8 57)) j k λe j k=>cS (λb=>bk i λe=>aR b (ap (bn .sub f (.int .u8 48)) λa=>e (Z (zC c 15 f 16 (.int .u8 0) 106 d 112 b) 16 a) j k) (aU a 109 [f] j k (λi j k=>ap (bn .leq (.int .u8 97) i) λi=>js i f j k λj k l=>iQ i (λb=>aU a 109 [j] k l b h) k l λj k l=>d5 i (bn .leq j (.int .u8 122)) k l λj k l=>cS (λi=>bk e λe=>aR i (aU a 109 [f] k l (λa g h=>ap (bn .sub a (.int .u8 97)) λa=>ap (bn .add a (.int .u8 10)) λa=>e (zA (zC c 15 f 16 (.int .u8 0) 106 d 112 b) 121 i 16 a) g h) h) (pt 2 λa=>g (.tuple [.int .u64 0,a]) k l)) λa=>aR i (a j) (a .zF)) h)) λa=>aR b (a e) (a .zF))) λa=>aR j (a d) (a .zF)) λa=>aR f (a (Z c 102 f) d e) (j (Z c 102 f) d e)) (zA (zC b 11 e 12 .zF 13 (.int .u64 0) 99 c) 100 i 101 (.Z 0)) d f) λa=>md e 10 a λa f=>aR a (f (zC b 10 (.int .u64 0) 85 e 90 a 10 (.int .u64 1844674407370955162)) c d) (md e 16 f λf g=>aR f (g (Z (zC b 10 (.int .u64 0) 85 e 90 a 92 f) 10 (.int .u64 1152921504606846976)) c d) (RQ b 1 λh=>ap (bn .quo (.int .u64 18446744073709551615) h) λh=>ap (bn .add h (.int .u64 1)) λh=>g (Z (zC b 10 (.int .u64 0) 85 e 90 a 92 f) 10 h) c d))) λa=>aR e (a (zA b 77 e 2 (.Z 64)) c d) (JL b 2 0 λf=>sM f (b 2) c d λc d h=>eU f (bn .gtr c (.Z 64)) d h λc d h=>cS (λc=>bk a λa=>aR c (pt 4 λa=>g (.tuple [.int .u64 0,a]) d h) (a (zA b 77 e 83 c) d h)) λa=>aR f (a .zT) (a c))) λi=>te b λj=>ap (bn .leq (.Z 2) j) λj=>mD j (b 1) c d λc d k=>d5 j (bn .leq c (.Z 36)) d k λc d k=>cS (λc=>bk i λi=>aR c (i (zB b 8 e 9 f 25 c) d k) (te b λj=>md j 0 i λi j=>aR i (e4 b λg=>Ns g 48 λg=>bk j λj=>aR g (bk j λj=>RK b d k λd k l m=>iQ d (λb=>aU a 109 [k] l m b h) l m λk l m=>d5 d (bn .eql k (.int .u8 98)) l m λk l m=>cS (λd=>bk j λj=>aR d (Bt b 2 λa=>j (Z (zC (zC b 8 e 9 f 25 c 32 i) 1 (.Z 10) 37 g 40 d 1 (.Z 2)) 0 a) l m) (RK b l m λk l m n=>iQ k (λb=>aU a 109 [l] m n b h) m n λl m n=>d5 k (bn .eql l (.int .u8 111)) m n λl m n=>cS (λk=>bk j λj=>aR k (Bt b 2 λa=>j (zA (zC (zC b 8 e 9 f 25 c 32 i) 1 (.Z 10) 37 g 40 d 52 k) 1 (.Z 8) 0 a) m n) (RK b m n λl m n o=>iQ l (λb=>aU a 109 [m] n o b h) n o λa h m=>d5 l (bn .eql a (.int .u8 120)) h m λa h m=>cS (λa=>bk j λj=>aR a (Bt b 2 λl=>j (zB (zC (zC b 8 e 9 f 25 c 32 i) 1 (.Z 10) 37 g 40 d 52 k) 64 a 1 (.Z 16) 0 l) h m) (Bt b 1 λl=>j (zB (zC (zC b 8 e 9 f 25 c 32 i) 1 (.Z 10) 37 g 40 d 52 k) 64 a 1 (.Z 8) 0 l) h m)) λb=>aR l (b a) (b .zF))) λa=>aR k (a l) (a .zF))) λa=>aR d (a k) (a .zF)) (j (zA (zC b 8 e 9 f 25 c 32 i) 1 (.Z 10) 37 g) d k)) (pt 3 λa=>g (.tuple [.int .u64 0,a]) d k))) λa=>aR j (a c) (a .zF)) λa=>aR i (pt 2 λa=>g (.tuple [.int .u64 0,a]) e f) (a (zB (cP [b,c,d]) 6 (.int .u64 0) 7 .nilIface 19 i) e f)
def aor:c2 X 87 [a0,bb,b5] h j ah av=abO X a0 bb b5 h j ah av:=Zk
def aoq:cQ X 87 3=true:=Zk
def abP(a:aK)(b c d e f:D)(g:Q af)(h:Nat)(i j:bJ):Prop:=
 bk (λa b c=>oP a λa=>i a b c) λk=>pt 2 λl=>DM a g 139 f l k λk l=>aR k (aU a 111 [b,c] g h (λa b c=>ap (some (D.iface 181 a)) λa=>i a b c) j) (pt 1 λm=>DM a g 139 f m l λl m=>aR l (aU a 112 [b,c] g h (λa b c=>ap (some (D.iface 181 a)) λa=>i a b c) j) (pt 3 λn=>DM a g 139 f n m λm n=>aR m (aU a 113 [b,c,d] g h (λa b c=>ap (some (D.iface 181 a)) λa=>i a b c) j) (pt 4 λo=>DM a g 139 f o n λn o=>aR n (aU a 114 [b,c,e] g h (λa b c=>ap (some (D.iface 181 a)) λa=>i a b c) j) (o (zA (zC (cP [b,c,d,e,f]) 10 .nilIface 11 f 12 k 19 l) 26 m 34 n) g h))))
def aot:c2 X 88 [a0,bb,b5,a3,a4] h j ah av=abP X a0 bb b5 a3 a4 h j ah av:=Zk
def aos:cQ X 88 5=true:=Zk
def abQ(a:aK)(b:D)(c:Q af)(d:Nat)(e f:bJ):Prop:=
 aU a 115 [b] c d (λc d g=>hs c λc h=>ap (c5 a d .neq 139 true h .nilIface) λi=>bk (λa b c=>oP a λa=>e (.tuple [a, .nilIface]) b c) λj=>aR i (aU a 88 [.str [65,116,111,105],b, .Z 0, .Z 0,h] d g (λa b d=>e (.tuple [c,a]) b d) f) (j (Z (zC (cP [b]) 2 (.Z 0) 3 .nilIface 4 c 5 h) 12 i) d g)) f
def aov:c2 X 89 [a0] h j ah av=abQ X a0 h j ah av:=Zk
def aou:cQ X 89 1=true:=Zk
def abT(a:aK)(b:D)(c:Q af)(d:Nat)(e f:bJ):Prop:=
 ha a c d b λc d g=>bk (λb c d=>ic b 1 2 a c λ_ b=>aU a 116 [b] c d (λb c d=>ap (c5 a c .add 9 true (.str [117]) b) λa=>e a c d) f) λh=>r5 a d 3 c 90 g f λd g i=>Bx d h λd h=>aR d (e (.str []) g i) (jj c a g λj=>bk h λh=>aR j (e (.str [98,111,111,108]) g i) (e0 1 c a g λ_ k=>bk h λh=>aR k (e0 2 c a g λ_ b=>aU a 116 [b] g i (λb c d=>ap (c5 a c .add 9 true (.str [105]) b) λa=>e a c d) f) (h (Z (zC (cP [b]) 1 c 2 (.str []) 3 d 7 j) 10 k) g i)))
def aoB:c2 X 91 [a0] h j ah av=abT X a0 h j ah av:=Zk
def aoA:cQ X 91 1=true:=Zk
def abU(a:aK)(b c:D)(d:Q af)(e:Nat)(f g:bJ):Prop:=
 ha a d e b λb d e=>r5 a d 3 b 90 e g λd e h=>js d c e h λc e h=>d5 d (cG a e 3 b) e h λb e h=>iQ d (λc=>aU a 117 [b] e h c g) e h λa b e=>d5 d (bn .andNot c a) b e λa b c=>d5 d (bn .eql a (.int .u64 0)) b c λa b c=>cS (λa=>f a b c) λb=>aR d (b a) (b .zF)
def aoD:c2 X 92 [a0,bb] h j ah av=abU X a0 bb h j ah av:=Zk
def aoC:cQ X 92 2=true:=Zk
def τ(a:aK)(b c:D)(d:Q af)(e:Nat)(f g:bJ):Prop:=
 fb (e+7) λh=>ap (aP a d (.ptr 5 0)) λi=>aU a 129 [c] d h (λc d g=>ap (e6 [.str [], .str [], .nilIface] [(0,1,b),(1,1,c),(2,1,i)]) λb=>y6 a d (e+5) b λb c=>ap (aP a c (.ptr 5 0)) λa=>gb a (some i) (f b c g)) g
def ale:c2 X 111 [a0,bb] h j ah av=τ X a0 bb h j ah av:=Zk
def ald:cQ X 111 2=true:=Zk
def υ(a:aK)(b c:D)(d:Q af)(e:Nat)(f g:bJ):Prop:=
 fb (e+7) λh=>ap (aP a d (.ptr 6 0)) λi=>aU a 129 [c] d h (λc d g=>ap (e6 [.str [], .str [], .nilIface] [(0,1,b),(1,1,c),(2,1,i)]) λb=>y6 a d (e+5) b λb c=>ap (aP a c (.ptr 6 0)) λa=>gb a (some i) (f b c g)) g
def alg:c2 X 112 [a0,bb] h j ah av=υ X a0 bb h j ah av:=Zk
def alf:cQ X 112 2=true:=Zk
def φ(a:aK)(b:D)(c:Q af)(d:Nat)(e f:bJ):Prop:=
 ap (nq b) λg=>p0 (λc d h=>p0 (λc d h=>p0 (λc d h=>js c g d h λd h i=>d5 c (bn .lss d (.Z 10)) h i λd h i=>p0 (λc d h=>cS (λc=>hf c .zT d h λd h i=>js d g h i λh i j=>d5 d (bn .lss (.Z 0) h) i j λh i j=>js d h i j λh i j=>js h g i j λi j k=>d5 h (bn .lss i (.Z 19)) j k λi j k=>iQ d (λa=>cS (λb=>a b j k) λa=>aR h (a i) (a .zF)) j k λh i j=>j7 c (λa=>cS (λb=>a b i j) λa=>aR d (a h) (a .zF)) i j λd h i=>cS (λc=>bk (λb c d=>e4 b λb=>aU a 131 [b, .Z 10, .Z 0] c d (λa b c=>hs a λa d=>e (.tuple [a,d]) b c) f) λd=>aR c (Ns b 45 λd=>hf d b h i λf h i=>eU d (oB f (.Z 0)) h i λf h i=>eU d (bn .eql f (.int .u8 43)) h i λf h i=>cS (λd=>bk (λb c d=>e4 b λf=>h0 (Q9 a c d f) c d λc d f=>hO c (λa b c=>n9 a λd=>Ns d 45 λd=>bk (λa b c=>cw (a 6) λa=>e (.tuple [a, .nilIface]) b c) λe=>aR d (cw (a 6) λf=>ap (gm .neg f) λf=>e (zA a 66 d 6 f) b c) (e (Z a 66 d) b c)) λg h=>e2 (λb c d f=>gW c 49 48 λg=>bk (λc d f=>td (λa c d=>ge a 49 λe=>b (Z a 49 e) c d) c 47 49 a d λa b=>ap (bn .sub b (.int .u8 48)) λg=>ap (bn .gtr g (.int .u8 9)) λh=>bk (λb c d=>cw (b 6) λe=>ap (bn .mul e (.Z 10)) λe=>cw (b 8) λf=>ap (og .i64 f) λf=>ap (bn .add e f) λe=>a (Z b 6 e) c d) λa=>aR h (pt 2 λa=>e (.tuple [.Z 0,a]) d f) (a (zB c 8 b 8 g 56 h) d f)) λa=>aR g (a (Z c 50 g) d f) (h (Z c 50 g) d f)) (zC b 6 (.Z 0) 47 c 48 g 49 (.Z 0)) d f) λa=>aR d (ap (nw b (some (.Z 1)) none) λf=>ap (nq f) λj=>ap (bn .lss j (.Z 1)) λj=>bk a λa=>aR j (pt 2 λa=>e (.tuple [.Z 0,a]) h i) (a (zC (zC (cP [b]) 2 (.Z 0) 3 .nilIface 4 g 30 c) 5 b 39 d 0 f 44 j) h i)) (a (zA (zC (cP [b]) 2 (.Z 0) 3 .nilIface 4 g 30 c) 5 b 39 d) h i)) λa=>aR d (a .zT) (a f)) (d (zC (cP [b]) 2 (.Z 0) 3 .nilIface 4 g 30 c) h i)) λa=>aR c (a .zT) (a d)) λa=>aR .zF (a c) (a .zF)) λa=>iB true .zF (cS (λb=>a b h i) λa=>aR c (a d) (a .zF)) (a bd.undef h i)) λa=>iB true .zF (a c d h) (a bd.undef d h)) λa=>iB true .zF (ap (bn .lss (.Z 0) c) λb=>a b d h) (a bd.undef d h)) λa=>iB true .zF (a g c d) (a bd.undef c d)
def ali:c2 X 115 [a0] h j ah av=φ X a0 h j ah av:=Zk
def alh:cQ X 115 1=true:=Zk
def ψ(a:aK)(b:D)(c:Q af)(d:Nat)(e _:bJ):Prop:=
 ha a c d b λb c d=>e0 2 b a c λ_ a=>ap (bn .sub (.Z 64) a) λa=>ap (bn .shr (.int .u64 18446744073709551615) a) λa=>e a c d
def aln:c2 X 117 [a0] h j ah av=ψ X a0 h j ah av:=Zk
def alm:cQ X 117 1=true:=Zk
def aam(a:aK)(b c d:D)(e:Q af)(f:Nat)(g h:bJ):Prop:=
 GY a e b λi=>bk (λb c d=>e4 b λe=>ap (oB e (.Z 0)) λe=>bk (λb c d=>fm b 0 1 λe f=>cw (b 2) λi=>aU a 87 [e,f,i] c d (λc d e=>hs c λc f=>ap (c5 a d .neq 139 true f .nilIface) λh=>js h f d e λd e i=>d5 h (some (D.iface 178 (.Z 1))) e i λe i j=>d5 h (c5 a i .neq 139 false d e) i j λa d e=>cS (λa=>bk (λa b c=>tb a 2 0 λd=>bk (λa b c=>cw (a 2) λd=>Bs d λd=>ap (og .u64 d) λd=>ap (bn .shl (.int .u64 1) d) λd=>cw (a 8) λe=>ap (gm .not e) λe=>mD e (a 9) b c λb c f=>js e d c f λc f h=>d5 e (bn .geq b c) f h λb c f=>cS (λb=>bk (λa b c=>cw (a 8) λd=>mD d (a 9) b c λb c e=>mD d (a 10) c e λc e f=>d5 d (bn .gtr b c) e f λb c e=>cS (λb=>bk (λa b c=>cw (a 9) λd=>ap (og .i64 d) λd=>cw (a 8) λe=>bk (λa b c=>cw (a 11) λa=>g (.tuple [a, .nilIface]) b c) λf=>aR e (ap (gm .neg d) λg=>f (zB a 11 d 69 e 11 g) b c) (f (zA a 11 d 69 e) b c)) λd=>aR b (cw (a 10) λa=>ap (og .i64 a) λa=>ap (gm .neg a) λa=>pt 1 λb=>g (.tuple [a,b]) c e) (d (Z a 62 b) c e)) λa=>aR d (a b) (a .zF)) λe=>aR b (ap (bn .sub d (.int .u64 1)) λa=>ap (og .i64 a) λa=>pt 1 λb=>g (.tuple [a,b]) c f) (e (zA a 10 d 52 b) c f)) λa=>aR e (a b) (a .zF)) λe=>aR d (e (zA a 41 d 2 (.Z 64)) b c) (e (Z a 41 d) b c)) λh=>aR a (g (.tuple [.Z 0,f]) d e) (h (zC b 9 (.int .u64 0) 9 c 7 f 38 a) d e)) λb=>aR h (b a) (b .zF)) h) λa=>ap (bn .eql e (.int .u8 43)) λf=>bk a λa=>aR f (Bt b 1 λg=>a (zC b 8 .zF 16 e 17 f 0 g) c d) (ap (bn .eql e (.int .u8 45)) λg=>bk a λa=>aR g (Bt b 1 λh=>a (zA (zC b 8 .zF 16 e 17 f 21 g) 0 h 8 .zT) c d) (a (zC b 8 .zF 16 e 17 f 21 g) c d))) λa=>aR i (pt 2 λa=>g (.tuple [.Z 0,a]) e f) (a (zB (cP [b,c,d]) 6 (.Z 0) 7 .nilIface 13 i) e f)
def alP:c2 X 131 [a0,bb,b5] h j ah av=aam X a0 bb b5 h j ah av:=Zk
def alO:cQ X 131 3=true:=Zk
def χ(a:aK)(b:D)(c:Q af)(d:Nat)(e f:bJ):Prop:=
 aU a 132 [b] c d e f
def alk:c2 X 116 [a0] h j ah av=χ X a0 h j ah av:=Zk
def alj:cQ X 116 1=true:=Zk
def aan(a:aK)(b:D)(c:Q af)(d:Nat)(e f:bJ):Prop:=
 aU a 139 [b,.Z 10] c d e f
def alR:c2 X 132 [a0] h j ah av=aan X a0 h j ah av:=Zk
def alQ:cQ X 132 1=true:=Zk
def aau(a:aK)(b c:D)(d:Q af)(e:Nat)(f g:bJ):Prop:=
 ap (bn .eql c (.Z 10)) λh=>bk (λb c d=>e4 b λe=>ap (og .u64 e) λe=>fm b 1 0 λb h=>JQ h λh=>aU a 146 [.aV,e,b,h, .zF] c d (λa b c=>hs a λ_ a=>f a b c) g) λi=>aR h (ap (bn .leq (.Z 0) b) λi=>js i b d e λd e j=>d5 i (bn .lss d (.Z 100)) e j λd e j=>cS (λd=>bk (λb c d=>ap (hD [.int .u8 0, .int .u8 0, .int .u8 0, .int .u8 0, .int .u8 0, .int .u8 0, .int .u8 0, .int .u8 0, .int .u8 0, .int .u8 0, .int .u8 0, .int .u8 0, .int .u8 0, .int .u8 0, .int .u8 0, .int .u8 0, .int .u8 0, .int .u8 0, .int .u8 0, .int .u8 0, .int .u8 0, .int .u8 0, .int .u8 0, .int .u8 0] d) λe=>gO a c d e.1 e.2 λc d e=>e4 b λh=>ap (og .u64 h) λh=>e4 b λi=>JQ i λi=>bk (λb c d=>vz b 6 a 144 c d g λc d e=>ap (bn .add (.Z 1) c) λh=>n9 b λi=>ap (Xz 24 1 i (some (.Z 1)) (some h) none) λh=>cw (b 6) λi=>aU a 145 [h,i] d e (λ_ d e=>e4 b λg=>JQ g λg=>bk (λb c d=>cw (b 7) λe=>ap (bn .add (.Z 1) e) λe=>n9 b λb=>ap (Xz 24 1 b (some (.Z 1)) (some e) none) λb=>ap (BX a c b) λa=>f a c d) λh=>aR g (n9 b λg=>ap (IL 24 1 g (.Z 0)) λg=>ap (gq a d 1 g (.int .u8 45)) λd=>ap (bn .add (.Z 1) c) λc=>n9 b λb=>ap (Xz 24 1 b none (some c) none) λb=>ap (BX a d b) λa=>f a d e) (h (zA b 7 c 34 g) d e)) g) λa=>aR i (ap (gm .neg h) λf=>a (zC b 5 c 6 h 23 i 6 f) d e) (a (zB b 5 c 6 h 23 i) d e)) λi=>aR d (aU a 143 [b] e j f g) (i (zB (cP [b,c]) 4 (.str []) 11 h 17 d) e j)) λa=>aR i (a d) (a .zF)) (i (zA (cP [b,c]) 4 (.str []) 11 h) d e)
def al5:c2 X 139 [a0,bb] h j ah av=aau X a0 bb h j ah av:=Zk
def al4:cQ X 139 2=true:=Zk
end
noncomputable section
variable (X : cl) (h : Q af) (j : Nat) (ah av : bJ) (a0 bb b5 a3 a4 a5 hR io ip : D)
def ρ(_:aK)(a:D)(b:Q af)(c:Nat)(d _:bJ):Prop:=
 ap (bn .or a (.int .u8 32)) λa=>d a b c
def ala:c2 X 109 [a0] h j ah av=ρ X a0 h j ah av:=Zk
def ak9:cQ X 109 1=true:=Zk
def aaz(_:aK)(a:D)(b:Q af)(c:Nat)(d _:bJ):Prop:=
 ap (bn .lss a (.Z 10)) λe=>bk (λa b c=>e4 a λe=>ap (bn .mul e (.Z 2)) λe=>e4 a λa=>ap (bn .mul a (.Z 2)) λa=>ap (bn .add a (.Z 2)) λa=>ap (nw (.str [48,48,48,49,48,50,48,51,48,52,48,53,48,54,48,55,48,56,48,57,49,48,49,49,49,50,49,51,49,52,49,53,49,54,49,55,49,56,49,57,50,48,50,49,50,50,50,51,50,52,50,53,50,54,50,55,50,56,50,57,51,48,51,49,51,50,51,51,51,52,51,53,51,54,51,55,51,56,51,57,52,48,52,49,52,50,52,51,52,52,52,53,52,54,52,55,52,56,52,57,53,48,53,49,53,50,53,51,53,52,53,53,53,54,53,55,53,56,53,57,54,48,54,49,54,50,54,51,54,52,54,53,54,54,54,55,54,56,54,57,55,48,55,49,55,50,55,51,55,52,55,53,55,54,55,55,55,56,55,57,56,48,56,49,56,50,56,51,56,52,56,53,56,54,56,55,56,56,56,57,57,48,57,49,57,50,57,51,57,52,57,53,57,54,57,55,57,56,57,57]) (some e) (some a)) λa=>d a b c) λf=>aR e (DF a λe=>ap (nw (.str [48,49,50,51,52,53,54,55,56,57,97,98,99,100,101,102,103,104,105,106,107,108,109,110,111,112,113,114,115,116,117,118,119,120,121,122]) (some a) (some e)) λa=>d a b c) (f (zA (cP [a]) 2 (.str []) 4 e) b c)
def amf:c2 X 143 [a0] h j ah av=aaz X a0 h j ah av:=Zk
def ame:cQ X 143 1=true:=Zk
end
noncomputable section
def jc(c:Nat):Bool:=decide (48<=c)&&decide (c<=57)
def rK(c:Nat):Bool:=decide (97<=c)&&decide (c<=122)||decide (65<=c)&&decide (c<=90)||decide (c=95)
def jr(c:Nat):Bool:=rK c||jc c
def CR{s:aY}{i c:Nat}(z:IntKind)(a:s[i]? =some c):oB (.str s) (.int z (i:Int))=some (.int .u8 (c:Int)):=by
 simp[oB,sT,a]
def XA{s:aY}{l a:Nat}(z eY:IntKind)(M:l<=a)(R:a<=s.length):nw (.str s) (some (.int z (l:Int))) (some (.int eY (a:Int)))=some (.str ((s.drop l).take (a-l))):=by
 simp[nw,mH,p3,sT,fN,M,R]
def Rc{s:aY}{l:Nat}(z:IntKind)(M:l<=s.length):nw (.str s) (some (.int z (l:Int))) none=some (.str (s.drop l)):=by
 simp[nw,mH,p3,sT,fN,M,ZA]
def aCw{s:aY}{a:Nat}(z:IntKind)(M:a<=s.length):nw (.str s) none (some (.int z (a:Int)))=some (.str (s.take a)):=by
 simp[nw,mH,p3,sT,fN,M]
section
variable{X:cl}{h S' aI aM:Q af}{j an aO aZ:Nat}
def S8(au:dj X)(c:Nat):aU X 40 [.int .u8 (c:Int)] h j (λac S' an=>ac= .bool (jc c)/\S'=h/\an=j) (λ_ _ _=>False):=by
 refine zz au (amY X) ?_
 rw[amZ]
 unfold aaX
 by_cases a:48<=c
 ·have d:decide ((48:Int)<=(c:Int))=true:=by simp;omega
  have cy:decide ((c:Int)<=57)=decide (c<=57):=by simp;omega
  refine cI @d @cy ⟨?_⟩
  exact⟨by simp[jc,a],rfl,rfl⟩
 ·have d:decide ((48:Int)<=(c:Int))=false:=by simp;omega
  refine cd @d ⟨?_⟩
  exact⟨by simp[jc,a],rfl,rfl⟩
def acG(au:dj X)(c:Nat):aU X 42 [.int .u8 (c:Int)] h j (λac S' an=>ac= .bool (rK c)/\S'=h/\an=j) (λ_ _ _=>False):=by
 refine zz au (am2 X) ?_
 rw[am3]
 unfold aaZ
 have cT:decide ((97:Int)<=(c:Int))=decide (97<=c):=by simp;omega
 have cy:decide ((c:Int)<=122)=decide (c<=122):=by simp;omega
 have e1:decide ((65:Int)<=(c:Int))=decide (65<=c):=by simp;omega
 have i6:decide ((c:Int)<=90)=decide (c<=90):=by simp;omega
 have gu:decide ((c:Int)=95)=decide (c=95):=by simp;omega
 by_cases M:97<=c<;>by_cases R:c<=122<;>by_cases ak:65<=c<;>by_cases aA:c<=90<;>try omega
 all_goals
  simp only[M,R,ak,aA,YE,Yh]at cT cy e1 i6
  refine fO @cT @cy @e1 @i6 @gu ⟨?_⟩
  exact⟨by simp[rK,M,R,ak,aA],rfl,rfl⟩
def azx(au:dj X)(c:Nat):aU X 65 [.int .u8 (c:Int)] h j (λac S' an=>ac= .bool (jr c)/\S'=h/\an=j) (λ_ _ _=>False):=by
 refine zz au (anM X) ?_
 rw[anN]
 unfold abo
 refine(acG au c).Zm ?_
 rintro ac S' an ⟨rfl,rfl,rfl⟩
 cases ag:rK c with
 |true=>
  refine cx ⟨?_⟩
  exact⟨by simp[jr,ag],rfl,rfl⟩
 |false=>
  refine cx ⟨?_⟩
  refine(S8 au c).Zm ?_
  rintro ac S' an ⟨rfl,rfl,rfl⟩
  refine cx ⟨?_⟩
  exact⟨by simp[jr,ag],rfl,rfl⟩
def azS(au:dj X)(c:Nat):aU X 63 [.int .u8 (c:Int)] h j (λac S' an=>ac= .bool (decide (c≠10))/\S'=h/\an=j) (λ_ _ _=>False):=by
 refine zz au (anI X) ?_
 rw[anJ]
 unfold abm
 refine cx ⟨?_⟩
 exact⟨by congr 1;simp;omega,rfl,rfl⟩
def rM(c:Nat):Nat:=(BitVec.ofInt 8 (c:Int)|||BitVec.ofInt 8 32).toNat%256
def WI(au:dj X)(c:Nat):aU X 109 [.int .u8 (c:Int)] h j (λac S' an=>ac= .int .u8 (rM c:Int)/\S'=h/\an=j) (λ_ _ _=>False):=by
 refine zz au (ak9 X) ?_
 rw[ala]
 unfold ρ
 have E:bn .or (.int .u8 (c:Int)) (.int .u8 32)=some (.int .u8 (qj .u8 ((BitVec.ofInt 8 (c:Int)|||BitVec.ofInt 8 32).toNat))):=by
  simp[bn,mB,mU,mi,lM];rfl
 refine cd @E ⟨?_⟩
 exact⟨rfl,rfl,rfl⟩
def ai0(au:dj X)(s p:aY):aU X 61 [.str s, .str p] h j (λac S' an=>ac= .bool (decide (p.length<=s.length/\s.take p.length=p))/\S'=h/\an=j) (λ_ _ _=>False):=by
 refine zz au (anE X) ?_
 rw[anF]
 unfold abk
 refine zz au (aoo X) ?_
 rw[aop]
 unfold abN
 by_cases a:p.length<=s.length
 ·have d:decide ((p.length:Int)<=(s.length:Int))=true:=by simp;omega
  have E:=aCw (s:=s) .i64 a
  refine cI @d @E ⟨?_⟩
  exact⟨by congr 1;simp[a],rfl,rfl⟩
 ·have d:decide ((p.length:Int)<=(s.length:Int))=false:=by simp;omega
  refine cd @d ⟨?_⟩
  exact⟨by congr 1;simp;omega,rfl,rfl⟩
end
def NG(X:cl)(f:D)(p:Nat->Bool):Prop:=∃z,f= .func (.func z) [] []/\∀(h:Q af) (j c:Nat),aU X z [.int .u8 (c:Int)] h j (λac S' an=>ac= .bool (p c)/\S'=h/\an=j) (λ_ _ _=>False)
def aBP{X:cl}(au:dj X):NG X (.func (.func 40) [] []) jc:=⟨_,rfl,λh j c=>S8 au c⟩
def ajk{X:cl}(au:dj X):NG X (.func (.func 65) [] []) jr:=⟨_,rfl,λh j c=>azx au c⟩
def aBQ{X:cl}(au:dj X):NG X (.func (.func 63) [] []) (λc=>decide (c≠10)):=⟨_,rfl,λh j c=>azS au c⟩
structure nF(X:cl)(h:Q af)(gA:Nat)(s:aY)(i:Nat):Prop where
 g:U X h gA=zw [.str s, .Z (i:Int)] 2
 le:i<=s.length
 many:s.length<=65536
 b3:(o X).a2<=gA
def nF.dB{X:cl}{h:Q af}{gA:Nat}{s:aY}{i:Nat}(a:nF X h gA s i):aP X h (.ptr gA 0)=some (.str s):=by rw[bc a.g];rfl
def nF.cX{X:cl}{h:Q af}{gA:Nat}{s:aY}{i:Nat}(a:nF X h gA s i):aP X h (.ptr gA 1)=some (.Z (i:Int)):=by rw[bc a.g];rfl
def nF.aa{X:cl}{h S':Q af}{gA:Nat}{s:aY}{i:Nat}(a:nF X h gA s i)(z:U X S' gA=U X h gA):nF X S' gA s i:=⟨by rw[z];exact a.g,a.le,a.many,a.b3⟩
section
variable{X:cl}{h S' aI aM:Q af}{j an aO aZ gA:Nat}{s:aY}{i:Nat}
def Q6(au:dj X){f:D}{p:Nat->Bool}(b7:NG X f p)(Y:nF X h gA s i){H:Nat}(az:H<=s.length):
 aU X 62 [.ptr gA 0, .Z (H:Int),f] h j (λac S' an=>ac= .str ((s.drop H).takeWhile p)/\S'=h/\an=j) (λ_ _ _=>False):=by
 refine zz au (anG X) ?_
 rw[anH]
 unfold abl
 obtain⟨z,rfl,b7⟩:=b7
 have bp:=Y.many
 have dB:=Y.dB
 refine cx ⟨?_⟩
 refine fh (λm I S' aN=>∃(E:Nat),I.g 0=some (.ptr gA 0)/\I.g 1=some (.Z (H:Int))/\I.g 2=some (.func (.func z) [] [])/\I.g 7=some (.Z (E:Int))/\H<=E/\E+m=s.length/\S'=h/\aN=j/\(s.drop H).takeWhile p=(s.drop H).take (E-H)++(s.drop E).takeWhile p)
  (s.length-H) ⟨H,a8,a8,a8,a8,Zj _,Zo,rfl,rfl,Zs⟩ ?_
 rintro m I aM aZ ⟨E,t0,t1,eK,gc,aus,aE8,rfl,rfl,bs⟩
 have bz:=zx E
 have aS:nw (.str s) (some (.Z (H:Int))) (some (.Z (E:Int)))=some (.str ((s.drop H).take (E-H))):=XA .i64 .i64 aus Zo
 cases m with
 |zero=>
  have d:=zt E s.length
  rw[ZC (by omega:s.length<=E),List.takeWhile_nil,Yt]at bs
  refine d9 @gc @t0 @t1 @eK @dB @d @aS ⟨?_⟩
  exact⟨by rw[bs],rfl,rfl⟩
 |succ m=>
  have d:=zu E s.length
  obtain⟨c,ax⟩:=zv s E
  have aF:s.drop E=c::s.drop (E+1):=by
   obtain⟨ae,B⟩:=Zc.1 ax
   rw[Zq ae,B]
  have dp:=CR .i64 ax
  refine d9 @gc @t0 @t1 @eK @dB @d @dp ⟨?_⟩
  refine(b7 aM aZ c).Zm ?_
  rintro ac a1 bi ⟨rfl,rfl,rfl⟩
  rw[aF,YC]at bs
  cases aw:p c with
  |false=>
   rw[aw]at bs
   simp only[Zy,ZD,Yt]at bs
   refine fO @gc @t0 @t1 @dB @aS ⟨?_⟩
   exact⟨by rw[bs],rfl,rfl⟩
  |true=>
   rw[aw]at bs
   simp only[ZE]at bs
   refine cI @gc @bz ⟨?_⟩
   refine⟨m,Zo,E+1,aL t0,aL t1,aL eK,a8,Zo,Zo,rfl,rfl, ?_⟩
   rw[bs,show E+1-H=(E-H)+1 by omega,ZQ]
   have:(s.drop H)[E-H]? =some c:=by rw[YH,show H+(E-H)=E by omega];exact ax
   rw[this]
   simp
end
def Mb(c:Nat):Bool:=decide (c=32)||decide (c=9)||decide (c=10)||decide (c=13)
structure iY(X:cl):Prop extends dj X where
 idx:∀c:Nat,c<256->∃bm:Int,X.O 108 [.str [32,9,10,13], .int .u8 (c:Int)]=some (.Z bm)/\(0<=bm↔Mb c=true)
 clone:∀s:aY,(∀c∈s,c<256)->s.length<=65536->X.O 129 [.str s]=some (.str s)
def o0(s:aY):Nat->Nat->Nat
 |0,i=>i
 |n+1,i=>match s[i]? with
  |none=>i
  |some c=>if Mb c then o0 s n (i+1)
   else if 2<=(s.drop i).length/\(s.drop i).take 2=[45,45]then o0 s n (i+((s.drop i).takeWhile λc=>decide (c≠10)).length)else i
def Gz{α:Type}(p:α->Bool):∀l:List α,(l.takeWhile p).length<=l.length:=by
 intro l
 induction l with
 |nil=>simp
 |cons H l ai=>rw[YC];split<;>simp<;>omega
section
variable{X:cl}{h S' aI aM:Q af}{j an aO aZ gA:Nat}{s:aY}{i:Nat}
def axA(au:iY X){c:Nat}(ax:c<256):aU X 60 [.str [32,9,10,13], .int .u8 (c:Int)] h j (λac S' an=>(∃bm:Int,ac= .Z bm/\(0<=bm↔Mb c=true))/\S'=h/\an=j) (λ_ _ _=>False):=by
 refine zz au.todj (anC X) ?_
 rw[anD]
 unfold abj
 refine zz au.todj (aom X) ?_
 rw[aon]
 unfold abM
 obtain⟨bm,M,R⟩:=au.idx c ax
 exact xB M ⟨⟨bm,rfl,R⟩,rfl,rfl⟩
def acJ(au:iY X)(Y:nF X h gA s i)(ag:∀c∈s,c<256)(aE:(o X).a2<=j)(LQ:gA<j):
 aU X 38 [.ptr gA 0] h j (λac S' an=>nF X S' gA s (o0 s s.length i)/\cg X [gA] h j S' an) (λ_ _ _=>False):=by
 refine zz au.todj (amS X) ?_
 rw[amT]
 unfold aaV
 have bp:=Y.many
 have is:=Y.b3
 refine cx ⟨?_⟩
 refine fh (λm I S' aN=>∃(S:Nat),I.g 0=some (.ptr gA 0)/\nF X S' gA s S/\s.length<=S+m/\o0 s s.length i=o0 s m S/\cg X [gA] h j S' aN)
  s.length ⟨i,a8,Y,Zo,rfl,cg.refl _ _ _⟩ ?_
 rintro m I aM aZ ⟨S,t0,hy,Pq,bE,dx⟩
 have fJ:=dx.le
 have dB:=hy.dB
 have cX:=hy.cX
 have wp:=hy.le
 have bN:=hy.g
 by_cases EV:S=s.length
 ·subst EV
  have ch:o0 s m s.length=s.length:=by cases m<;>simp[o0]
  have d:decide ((s.length:Int)<(s.length:Int))=false:=by simp
  refine fI @t0 @dB @cX @d ⟨?_⟩
  exact⟨by rw[bE,ch];exact hy,dx.trans ⟨Zo,λ_ _ _=>rfl⟩⟩
 have d:=zu S s.length
 obtain⟨c,ax⟩:=zv s S
 obtain⟨m,rfl⟩:∃gN,m=gN+1:=⟨m-1,Zo⟩
 rw[o0,ax]at bE
 simp only[]at bE
 have dp:=CR .i64 ax
 have O9:=ag c (Zl ax)
 refine fO @t0 @dB @cX @d @dp ⟨?_⟩
 refine(axA au O9).Zm ?_
 rintro ac a1 bi ⟨⟨bm,rfl,ch⟩,rfl,rfl⟩
 cases eC:Mb c with
 |true=>
  have l7:=ch.2 eC
  have cy:decide ((0:Int)<=bm)=true:=by simp;omega
  have bz:=zx S
  rw[eC]at bE
  simp only[ZE]at bE
  refine fI @t0 @cX @cy @bz ⟨?_⟩
  refine⟨m,Zo,S+1,aL t0,⟨by rw[a7 Zo];rfl,Zo,bp,is⟩,Zo,bE,dx.trans ⟨Zo,λb ag bV=>by simp only[Zt,ZJ,YS,Ym,ZG,Yc]at bV;exact zy⟩⟩
 |false=>
  have cy:decide ((0:Int)<=bm)=false:=by simp;have:=mt ch.1 (by rw[eC];decide);omega
  have bz:nw (.str s) (some (.Z (S:Int))) none=some (.str (s.drop S)):=Rc .i64 wp
  rw[eC]at bE
  simp only[Zy,ZD]at bE
  refine fO @t0 @dB @cX @cy @bz ⟨?_⟩
  refine(ai0 au.todj (s.drop S) [45,45]).Zm ?_
  rintro ac bA cK ⟨rfl,rfl,rfl⟩
  by_cases aw:2<=(s.drop S).length/\(s.drop S).take 2=[45,45]
  ·rw[Zr aw]at bE
   have e1:decide ([45,45].length<=(s.drop S).length/\List.take [45,45].length (s.drop S)=[45,45])=true:=decide_eq_true aw
   have aC:=Gz (λc=>decide (c≠10)) (s.drop S)
   rw[Yx]at aC
   generalize bs:((s.drop S).takeWhile λc=>decide (c≠10)).length=w at bE aC
   have nR:1<=w:=by
    have atN:c=45:=by
     have:=aw.2
     have aF:s.drop S=c::s.drop (S+1):=by
      obtain⟨ae,B⟩:=Zc.1 ax
      rw[Zq ae,B]
     rw[aF]at this
     simp at this
     exact this.1
    have aF:s.drop S=c::s.drop (S+1):=by
     obtain⟨ae,B⟩:=Zc.1 ax
     rw[Zq ae,B]
    rw[aF,atN,YC]at bs
    simp at bs
    omega
   have cF:bn .add (.Z (S:Int)) (.Z (w:Int))=some (.Z ((S+w:Nat):Int)):=by rw[en Zo Zo];rfl
   simp only[e1]
   refine dI @t0 @dB @cX ⟨?_⟩
   refine(Q6 au.todj (aBQ au.todj) hy wp).Zm ?_
   rintro ac bM bX ⟨rfl,rfl,rfl⟩
   have f0:nq (.str ((s.drop S).takeWhile λc=>decide (c≠10)))=some (.Z (w:Int)):=by rw[AX,bs]
   refine dI @f0 @cF @cX ⟨?_⟩
   refine f4 (by simp[D.same]) ?_
   refine cx ⟨?_⟩
   refine⟨m,Zo,S+w,aL t0,⟨by rw[a7 Zo];rfl,Zo,bp,is⟩,Zo,bE,dx.trans ⟨Zo,λb ag bV=>by simp only[Zt,ZJ,YS,Ym,ZG,Yc]at bV;exact zy⟩⟩
  ·rw[Zh aw]at bE
   have e1:decide ([45,45].length<=(s.drop S).length/\List.take [45,45].length (s.drop S)=[45,45])=false:=decide_eq_false aw
   simp only[e1]
   refine cx ⟨?_⟩
   exact⟨by rw[bE];exact hy,dx.trans ⟨Zo,λ_ _ _=>rfl⟩⟩
end
def ul:aY->Nat->Nat×Nat
 |[],n=>(n,0)
 |c::l,n=>if jc c then(if 1844674407370955162<=n then(18446744073709551615,1)else if 18446744073709551616<=n*10+(c-48)then(18446744073709551615,1)else ul l (n*10+(c-48)))
  else(0,2)
def k6(s:aY):Nat×Nat:=if s=[]then(0,2)else ul s 0
def xK:Nat->D
 |0=> .nilIface
 |n+1=> .iface 178 (.Z ((n+1:Nat):Int))
def acQ{C:aK}{h:Q af}{j:Nat}{s:aY}{ah:bJ}(a:s.length<=1048576)(z:ah (.fj j 0 s.length 1) (bj C h j (some (.cells (Q.ofList (s.map λn:Nat=>D.int .u8 (n:Int)) 0 .nil) s.length (.grow [])))) (j+1)):h0 (Q9 C h j (.str s)) h j ah:=by
 refine kb (v:= .fj j 0 s.length 1) (S':=bj C h j (some (.cells (Q.ofList (s.map λn:Nat=>D.int .u8 (n:Int)) 0 .nil) s.length (.grow [])))) (an:=j+1) ?_ z
 simp[Q9,uT,lC a,nW]
def akm{x:Int}(M:0<=x)(R:x<18446744073709551616):qj .u64 x=x:=by
 simp only[qj];exact YT M R
def axr{x e:Nat}(a:x+e<18446744073709551616):bn .add (.int .u64 (x:Int)) (.int .u64 (e:Int))=some (.int .u64 ((x+e:Nat):Int)):=by
 rw[ag9];congr 2;rw[YT Zo Zo];rfl
def axs{x e:Nat}(a:x*e<18446744073709551616):bn .mul (.int .u64 (x:Int)) (.int .u64 (e:Int))=some (.int .u64 ((x*e:Nat):Int)):=by
 have:(x:Int)*(e:Int)=((x*e:Nat):Int):=by simp
 simp only[bn,mB,mU,mi,lD,fo,lM,this]
 rw[akm Zo Zo,HI]
def ahb{x e:Nat}(a:e<=x)(R:x<256):bn .sub (.int .u8 (x:Int)) (.int .u8 (e:Int))=some (.int .u8 ((x-e:Nat):Int)):=by
 have:(x:Int) -(e:Int)=((x-e:Nat):Int):=Zo
 have w:qj .u8 ((x-e:Nat):Int)=((x-e:Nat):Int):=by simp only[qj];exact YT Zo Zo
 simp only[bn,mB,mU,mi,lD,fo,lM,this,w,HI]
def axq{x e:Nat}(R:x+e<256):bn .add (.int .u8 (x:Int)) (.int .u8 (e:Int))=some (.int .u8 ((x+e:Nat):Int)):=by
 have:(x:Int)+(e:Int)=((x+e:Nat):Int):=Zo
 have w:qj .u8 ((x+e:Nat):Int)=((x+e:Nat):Int):=by simp only[qj];exact YT Zo Zo
 simp only[bn,mB,mU,mi,lD,fo,lM,this,w,HI]
section
variable{X:cl}{h S' aI aM:Q af}{j an aO aZ gA:Nat}{s:aY}{i:Nat}
def aj3(au:iY X)(aD:s.length<=65536)(ag:∀c∈s,c<256)(aE:(o X).a2<=j){b:Int}(auw:b=0\/b=64):
 aU X 87 [.str s, .Z 10, .Z b] h j (λac S' an=>ac= .tuple [.int .u64 ((k6 s).1:Int),xK (k6 s).2]/\ba X h j S' an) (λ_ _ _=>False):=by
 refine zz au.todj (aoq X) ?_
 rw[aor]
 unfold abO
 by_cases aX:s=[]
 ·subst aX
  have d:decide (([]:List Nat)=[])=true:=rfl
  refine cd @d ⟨?_⟩
  exact⟨rfl,dz⟩
 have d:decide (s=[])=false:=by simp[aX]
 have ay:decide ((2:Int)<=10)=true:=rfl
 have Kt:decide ((10:Int)<=36)=true:=rfl
 have aqY:decide ((10:Int)=10)=true:=rfl
 have ei:bn .shl (.int .u64 1) (.int .u64 64)=some (.int .u64 0):=by rfl
 have MZ:bn .sub (.int .u64 0) (.int .u64 1)=some (.int .u64 18446744073709551615):=by rfl
 have vP:og .u64 (.Z 64)=some (.int .u64 64):=by rfl
 have aqV:(64:Int)%18446744073709551616=64:=rfl
 have ada:(10:Int)%18446744073709551616=10:=rfl
 have iq:decide ((10:Int)=0)=false:=rfl
 have awd:k6 s=ul s 0:=by simp[k6,aX]
 rw[awd]
 rcases auw with rfl|rfl
 all_goals
  have cT:decide ((0:Int)=0)=true:=rfl
  have cy:decide ((64:Int)=0)=false:=rfl
  have e1:decide ((64:Int)<0)=false:=rfl
  have i6:decide ((64:Int)<64)=false:=rfl
  refine d9 @d @ay @Kt @aqY @iq @cT (Za @cy (Za @e1 (Za @i6 (Za @ei (Za @MZ (Za @vP @aqV)))))) ⟨?_⟩
  refine acQ Zo ?_
  have TJ:U X (bj X h j (some (.cells (Q.ofList (s.map λn:Nat=>D.int .u8 (n:Int)) 0 .nil) s.length (.grow [])))) j=some (.cells (Q.ofList (s.map λn:Nat=>D.int .u8 (n:Int)) 0 .nil) s.length (.grow [])):=a7 aE
  have T8:ba X h j (bj X h j (some (.cells (Q.ofList (s.map λn:Nat=>D.int .u8 (n:Int)) 0 .nil) s.length (.grow [])))) (j+1):=dz
  generalize bj X h j (some (.cells (Q.ofList (s.map λn:Nat=>D.int .u8 (n:Int)) 0 .nil) s.length (.grow [])))=vF at*
  refine cx ⟨?_⟩
  refine fh (λm I S' aN=>∃(S n:Nat),I.g 99=some (.fj j 0 s.length 1)/\I.g 100=some (.Z (s.length:Int))/\I.g 101=some (.Z (S:Int))/\I.g 13=some (.int .u64 (n:Int))/\I.g 10=some (.int .u64 1844674407370955162)/\I.g 11=some (.int .u64 18446744073709551615)/\I.g 12=some .zF/\I.g 8=some .zF/\I.g 1=some (.Z 10)/\S+m=s.length/\n<18446744073709551616/\S'=vF/\j+1<=aN/\ul s 0=ul (s.drop S) n)
   s.length ⟨0,0,a8,a8,fq,fq,a8,a8,a8,a8,a8,Zo,Zo,rfl,Zo,rfl⟩ ?_
  rintro m I aM aZ ⟨S,n,M4,Jz,M3,mb,t10,t11,t12,t8,t1,bE,aFN,rfl,lL,aw⟩
  have bx:ba X h j aM aZ:=⟨Zo,T8.aa⟩
  cases m with
  |zero=>
   have gu:=zt S s.length
   rw[ZC (by omega:s.length<=S),ul]at aw
   rw[aw]
   refine fO @M3 @Jz @t12 @mb @gu ⟨?_⟩
   exact⟨rfl,bx⟩
  |succ m=>
   have gu:=zu S s.length
   have bz:=zx S
   obtain⟨c,ax⟩:=zv s S
   have aF:s.drop S=c::s.drop (S+1):=by
    obtain⟨ae,B⟩:=Zc.1 ax
    rw[Zq ae,B]
   have O9:=ag c (Zl ax)
   have dp:gy 1 (.fj j 0 s.length 1) (.Z (S:Int))=some (.ptr j S):=by rw[IN _ Zo];simp
   have wt:aP X aM (.ptr j S)=some (.int .u8 (c:Int)):=by rw[bc TJ,mZ];simp[ax]
   rw[aF,ul]at aw
   rw[aw]
   have aGq:decide ((c:Int)=95)=decide (c=95):=by simp;omega
   have FB:og .u8 (.Z 10)=some (.int .u8 10):=rfl
   by_cases qI:jc c=true
   ·have UL:48<=c/\c<=57:=by simpa[jc]using qI
    rw[Zr qI]
    have wF:decide ((c:Int)=95)=false:=by simp;omega
    have bQ:decide ((48:Int)<=(c:Int))=true:=by simp;omega
    have ct:decide ((c:Int)<=57)=true:=by simp;omega
    have c1:bn .sub (.int .u8 (c:Int)) (.int .u8 48)=some (.int .u8 ((c-48:Nat):Int)):=ahb (e:=48) Zo O9
    have dJ:decide ((10:Int)<=((c-48:Nat):Int))=false:=by simp;omega
    by_cases Pb:1844674407370955162<=n
    ·rw[Zr Pb]
     have d7:decide ((1844674407370955162:Int)<=(n:Int))=true:=by simp;omega
     refine d9 @M3 @Jz @M4 @t8 @t1 @gu (Za @dp (Za @wt (Za @wF (Za @bQ (Za @ct (Za @c1 (Za @dJ (Za @FB (Za @mb (Za @t10 (Za @d7 @t11))))))))))) ⟨?_⟩
     exact⟨rfl,bx⟩
    ·rw[Zh Pb]
     have d7:decide ((1844674407370955162:Int)<=(n:Int))=false:=by simp;omega
     have c3:bn .mul (.int .u64 (n:Int)) (.int .u64 10)=some (.int .u64 ((n*10:Nat):Int)):=axs (e:=10) Zo
     have ft:((c-48:Nat):Int)%18446744073709551616=((c-48:Nat):Int):=YT Zo Zo
     by_cases Vy:18446744073709551616<=n*10+(c-48)
     ·rw[Zr Vy]
      have gp:bn .add (.int .u64 ((n*10:Nat):Int)) (.int .u64 ((c-48:Nat):Int))=some (.int .u64 ((n*10+(c-48) -18446744073709551616:Nat):Int)):=by
       have avN:(((n*10:Nat):Int)+((c-48:Nat):Int))%18446744073709551616=((n*10+(c-48) -18446744073709551616:Nat):Int):=Zo
       rw[ag9,avN]
      have hg:decide (((n*10+(c-48) -18446744073709551616:Nat):Int)<((n*10:Nat):Int))=true:=by simp only[Zg];omega
      refine d9 @M3 @Jz @M4 @t8 @t1 @gu (Za @dp (Za @wt (Za @wF (Za @bQ (Za @ct (Za @c1 (Za @dJ (Za @FB (Za @mb (Za @t10 (Za @d7 (Za @ada (Za @c3 (Za @ft (Za @gp (Za @hg @t11)))))))))))))))) ⟨?_⟩
      exact⟨rfl,bx⟩
     ·have It:=aw
      rw[Zr qI,Zh Pb,Zh Vy]at It
      rw[Zh Vy]
      have gp:bn .add (.int .u64 ((n*10:Nat):Int)) (.int .u64 ((c-48:Nat):Int))=some (.int .u64 ((n*10+(c-48):Nat):Int)):=axr Zo
      have hg:decide (((n*10+(c-48):Nat):Int)<((n*10:Nat):Int))=false:=by simp only[Zb];omega
      have wG:decide ((18446744073709551615:Int)<((n*10+(c-48):Nat):Int))=false:=by simp only[Zb];omega
      refine d9 @M3 @Jz @M4 @t8 @t1 @gu (Za @dp (Za @wt (Za @wF (Za @bQ (Za @ct (Za @c1 (Za @dJ (Za @FB (Za @mb (Za @t10 (Za @d7 (Za @ada (Za @c3 (Za @ft (Za @gp (Za @hg (Za @wG (Za @t11 @bz)))))))))))))))))) ⟨?_⟩
      exact⟨m,Zo,S+1,n*10+(c-48),aL M4,aL Jz,a8,a8,aL t10,aL t11,aL t12,aL t8,aL t1,Zo,Zo,rfl,Zo,by first|exact It|rw[It]|rfl⟩
   ·have UL:¬(48<=c/\c<=57):=by simpa[jc]using qI
    rw[Zh qI]
    have akR:rM c<256:=Nat.mod_lt _ Zo
    have cN:decide ((97:Int)<=(rM c:Int))=decide (97<=rM c):=by simp;omega
    have cA:decide ((rM c:Int)<=122)=decide (rM c<=122):=by simp;omega
    have bQ:decide ((48:Int)<=(c:Int))=decide (48<=c):=by simp;omega
    have ct:decide ((c:Int)<=57)=decide (c<=57):=by simp;omega
    have fin:97<=rM c->rM c<=122->∃bm:Nat,bn .sub (.int .u8 (rM c:Int)) (.int .u8 97)=some (.int .u8 ((rM c-97:Nat):Int))/\bn .add (.int .u8 ((rM c-97:Nat):Int)) (.int .u8 10)=some (.int .u8 ((rM c-97+10:Nat):Int))/\decide ((10:Int)<=((rM c-97+10:Nat):Int))=true:=λM R=>
     ⟨0,ahb (e:=97) M akR,axq (e:=10) Zo,by simp only[Zg];omega⟩
    by_cases aEY:c=95<;>by_cases atO:48<=c<;>by_cases atP:c<=57<;>try omega
    all_goals
     simp only[atO,atP,YE,Yh]at bQ ct
     first|have ahl:decide ((c:Int)=95)=true:=by simp only[Zg];omega|have ahl:decide ((c:Int)=95)=false:=by simp only[Zb];omega
     refine d9 @M3 @Jz @M4 @t8 @t1 @gu (Za @dp (Za @wt (Za @ahl (Za @bQ @ct)))) ⟨?_⟩
     refine(WI au.todj c).Zm ?_
     rintro ac a1 bi ⟨rfl,rfl,rfl⟩
     by_cases pT:97<=rM c
     ·simp only[pT,YE]at cN
      refine cd @cN ⟨?_⟩
      refine(WI au.todj c).Zm ?_
      rintro ac a1 bi ⟨rfl,rfl,rfl⟩
      by_cases mQ:rM c<=122
      ·simp only[mQ,YE]at cA
       refine cd @cA ⟨?_⟩
       refine(WI au.todj c).Zm ?_
       rintro ac a1 bi ⟨rfl,rfl,rfl⟩
       obtain⟨_,eR,fk,f3⟩:=fin pT mQ
       refine fO @eR @fk @f3 @FB @t1 ⟨?_⟩
       exact⟨rfl,bx⟩
      ·simp only[mQ,Yh]at cA
       refine cd @cA ⟨?_⟩
       exact⟨rfl,bx⟩
     ·simp only[pT,Yh]at cN
      refine cd @cN ⟨?_⟩
      exact⟨rfl,bx⟩
end
structure mf(X:cl):Prop where
 aCs:∃b,∀h,aP X h (.ptr 5 0)=some (.iface 206 (.ptr b 0))
 seven:∃b,∀h,aP X h (.ptr 6 0)=some (.iface 206 (.ptr b 0))
section
variable{X:cl}{h S' aI aM:Q af}{j an aO aZ gA:Nat}{s:aY}{i:Nat}
def arC:c5 X h .eql 139 false (.iface 178 (.Z 2)) (.iface 178 (.Z 2))=some .zT:=Zk
def arB:c5 X h .eql 139 false (.iface 178 (.Z 1)) (.iface 178 (.Z 2))=some .zF:=Zk
def arA:c5 X h .eql 139 false (.iface 178 (.Z 1)) (.iface 178 (.Z 1))=some .zT:=Zk
def I4(z:Int):c5 X h .neq 139 true (.iface 178 (.Z z)) .nilIface=some .zT:=Zk
def FU:c5 X h .neq 139 true .nilIface .nilIface=some .zF:=Zk
def aik(b:Nat):c5 X h .neq 139 true (.iface 181 (.ptr b 0)) .nilIface=some .zT:=Zk
def aDg(au:iY X)(bU:mf X)(f:aY)(aD:s.length<=65536)(qG:∀c∈s,c<256)(aE:(o X).a2<=j):
 aU X 111 [.str f, .str s] h j (λac S' an=>(∃b,ac= .ptr b 0)/\ba X h j S' an) (λ_ _ _=>False):=by
 refine zz au.todj (ald X) ?_
 rw[ale]
 unfold τ
 obtain⟨b,ag⟩:=bU.aCs
 refine cd @ag ⟨?_⟩
 refine xB (au.clone s qG aD) ?_
 refine cd @ag ⟨?_⟩
 refine f4 (by simp[D.same]) ?_
 exact⟨⟨_,rfl⟩,dz⟩
def aBo(au:iY X)(bU:mf X)(f:aY)(aD:s.length<=65536)(qG:∀c∈s,c<256)(aE:(o X).a2<=j):
 aU X 112 [.str f, .str s] h j (λac S' an=>(∃b,ac= .ptr b 0)/\ba X h j S' an) (λ_ _ _=>False):=by
 refine zz au.todj (alf X) ?_
 rw[alg]
 unfold υ
 obtain⟨b,ag⟩:=bU.seven
 refine cd @ag ⟨?_⟩
 refine xB (au.clone s qG aD) ?_
 refine cd @ag ⟨?_⟩
 refine f4 (by simp[D.same]) ?_
 exact⟨⟨_,rfl⟩,dz⟩
def On(au:iY X)(bU:mf X)(f:aY)(x e:D)(aD:s.length<=65536)(qG:∀c∈s,c<256)(aE:(o X).a2<=j){z:Nat}(aJ:z=1\/z=2):
 aU X 88 [.str f, .str s,x,e,xK z] h j (λac S' an=>(∃b,ac= .iface 181 (.ptr b 0))/\ba X h j S' an) (λ_ _ _=>False):=by
 refine zz au.todj (aos X) ?_
 rw[aot]
 unfold abP
 rcases aJ with rfl|rfl
 ·have bz:xK 1= .iface 178 (.Z 1):=rfl
  rw[bz]
  refine cI @arB @arA ⟨?_⟩
  refine(aBo au bU f aD qG aE).Zm ?_
  rintro ac a1 bi ⟨⟨b,rfl⟩,ck⟩
  refine cx ⟨?_⟩
  exact⟨⟨_,rfl⟩,ck⟩
 ·have bz:xK 2= .iface 178 (.Z 2):=rfl
  rw[bz]
  refine cd @arC ⟨?_⟩
  refine(aDg au bU f aD qG aE).Zm ?_
  rintro ac a1 bi ⟨⟨b,rfl⟩,ck⟩
  refine cx ⟨?_⟩
  exact⟨⟨_,rfl⟩,ck⟩
def aBd:∀(l:aY) (n:Nat),(ul l n).2=0\/(ul l n).2=1\/(ul l n).2=2:=by
 intro l
 induction l with
 |nil=>intro n;exact .inl rfl
 |cons c l ai=>
  intro n
  rw[ul]
  split
  ·split
   ·exact .inr (.inl rfl)
   ·split
    ·exact .inr (.inl rfl)
    ·exact ai _
  ·exact .inr (.inr rfl)
def ai1(l:aY):(k6 l).2=0\/(k6 l).2=1\/(k6 l).2=2:=by
 unfold k6;split
 ·exact .inr (.inr rfl)
 ·exact aBd _ _
def aAN(au:iY X)(bU:mf X)(aD:s.length<=65536)(ag:∀c∈s,c<256)(aE:(o X).a2<=j):
 aU X 64 [.str s, .Z 10, .Z 64] h j (λac S' an=>(∃E,ac= .tuple [.int .u64 ((k6 s).1:Int),E]/\((k6 s).2=0/\E= .nilIface\/(k6 s).2≠0/\∃b,E= .iface 181 (.ptr b 0)))/\ba X h j S' an) (λ_ _ _=>False):=by
 refine zz au.todj (anK X) ?_
 rw[anL]
 unfold abn
 refine(aj3 au aD ag aE (.inr rfl)).Zm ?_
 rintro ac a1 bi ⟨rfl,ck⟩
 have iO:=ck.le
 rcases ai1 s with a|a|a
 ·rw[a]
  have bz:xK 0= .nilIface:=rfl
  rw[bz]
  refine cd @FU ⟨?_⟩
  exact⟨⟨_,rfl, .inl ⟨rfl,rfl⟩⟩,ck⟩
 ·rw[a]
  have bz:xK 1= .iface 178 (.Z 1):=rfl
  rw[bz]
  refine cd @I4 ⟨?_⟩
  refine(On (j:=bi) (h:=a1) au bU [80,97,114,115,101,85,105,110,116] (.Z 10) (.Z 64) aD ag (ZB aE iO) (z:=1) Zd).Zm ?_
  rintro ac bA cK ⟨⟨b,rfl⟩,c0⟩
  refine cx ⟨?_⟩
  exact⟨⟨_,rfl, .inr ⟨Zd,b,rfl⟩⟩,ck.trans c0⟩
 ·rw[a]
  have bz:xK 2= .iface 178 (.Z 2):=rfl
  rw[bz]
  refine cd @I4 ⟨?_⟩
  refine(On (j:=bi) (h:=a1) au bU [80,97,114,115,101,85,105,110,116] (.Z 10) (.Z 64) aD ag (ZB aE iO) (z:=2) Zd).Zm ?_
  rintro ac bA cK ⟨⟨b,rfl⟩,c0⟩
  refine cx ⟨?_⟩
  exact⟨⟨_,rfl, .inr ⟨Zd,b,rfl⟩⟩,ck.trans c0⟩
end
def β(E:D):Prop:=E= .nilIface\/E= .iface 178 (.Z 1)\/E= .iface 178 (.Z 2)
def DV(s:aY):Prop:=∀c∈s,c≠43/\c≠45
def yI(s:aY):Nat:=s.foldl (λn c=>n*10+(c-48)) 0
def aBe:∀(l:aY) (n:Nat),n<18446744073709551616->(ul l n).1<18446744073709551616:=by
 intro l
 induction l with
 |nil=>intro n a;exact a
 |cons c l ai=>
  intro n a
  rw[ul]
  split
  ·split
   ·show 18446744073709551615<_;omega
   ·split
    ·show 18446744073709551615<_;omega
    ·exact ai _ Zo
  ·show 0<_;omega
def ai2(l:aY):(k6 l).1<18446744073709551616:=by
 unfold k6;split
 ·show 0<_;omega
 ·exact aBe _ _ Zo
section
variable{X:cl}{h S' aI aM:Q af}{j an aO aZ gA:Nat}{s:aY}{i:Nat}
def ain:c5 X h .neq 139 false (.iface 178 (.Z 1)) (.iface 178 (.Z 1))=some .zF:=Zk
def aio:c5 X h .neq 139 false (.iface 178 (.Z 2)) (.iface 178 (.Z 1))=some .zT:=Zk
def ahf(au:iY X)(aD:s.length<=65536)(ag:∀c∈s,c<256)(u3:DV s)(aE:(o X).a2<=j):
 aU X 131 [.str s, .Z 10, .Z 0] h j (λac S' an=>(∃bm E,ac= .tuple [.Z bm,E]/\β E)/\ba X h j S' an) (λ_ _ _=>False):=by
 refine zz au.todj (alO X) ?_
 rw[alP]
 unfold aam
 by_cases aX:s=[]
 ·subst aX
  have d:decide (([]:List Nat)=[])=true:=rfl
  refine cd @d ⟨?_⟩
  exact⟨⟨_,_,rfl, .inr (.inr rfl)⟩,ba.refl _ _⟩
 have d:decide (s=[])=false:=by simp[aX]
 obtain⟨c,eJ,rfl⟩:∃c eJ,s=c::eJ:=by cases s with
  |nil=>exact absurd rfl aX
  |cons c eJ=>exact⟨c,eJ,rfl⟩
 have dp:oB (.str (c::eJ)) (.Z 0)=some (.int .u8 (c:Int)):=CR (i:=0) .i64 rfl
 have ax:=u3 c (Zv ..)
 have bQ:decide ((c:Int)=43)=false:=by simp only[Zb];omega
 have ct:decide ((c:Int)=45)=false:=by simp only[Zb];omega
 refine fI @d @dp @bQ @ct ⟨?_⟩
 refine(aj3 au aD ag aE (.inl rfl)).Zm ?_
 rintro ac a1 bi ⟨rfl,ck⟩
 have iO:=ck.le
 generalize aw:k6 (c::eJ)=p
 have pe:=ai1 (c::eJ)
 have tV:=ai2 (c::eJ)
 rw[aw]at pe tV
 obtain⟨Nh,aES⟩:=p
 simp only[]at pe tV ⊢
 have iq:decide ((0:Int)=0)=true:=rfl
 have jw:bn .sub (.Z 64) (.Z 1)=some (.Z 63):=rfl
 have j0:(63:Int)%18446744073709551616=63:=rfl
 have MW:bn .shl (.int .u64 1) (.int .u64 63)=some (.int .u64 9223372036854775808):=rfl
 have aB3:bn .sub (.int .u64 9223372036854775808) (.int .u64 1)=some (.int .u64 9223372036854775807):=rfl
 have aB4:og .i64 (.int .u64 9223372036854775807)=some (.Z 9223372036854775807):=rfl
 rcases pe with rfl|rfl|rfl
 all_goals
  simp only[show xK 0= .nilIface from rfl,show xK 1= .iface 178 (.Z 1) from rfl,show xK 2= .iface 178 (.Z 2) from rfl]
  by_cases Pb:9223372036854775808<=Nh
  ·have cT:decide ((9223372036854775808:Int)<=(Nh:Int))=true:=by simp only[Zg];omega
   refine d9 @FU @I4 @ain @aio @iq @jw (Za @j0 (Za @MW (Za @cT (Za @aB3 @aB4)))) ⟨?_⟩
   exact⟨⟨_,_,rfl,by first|exact .inl rfl|exact .inr (.inl rfl)|exact .inr (.inr rfl)⟩,ck⟩
  ·have cT:decide ((9223372036854775808:Int)<=(Nh:Int))=false:=by simp only[Zb];omega
   have aB5:og .i64 (.int .u64 (Nh:Int))=some (.Z (Nh:Int)):=adb Zo Zo
   refine d9 @FU @I4 @ain @aio @iq @jw (Za @j0 (Za @MW (Za @cT @aB5))) ⟨?_⟩
   exact⟨⟨_,_,rfl,by first|exact .inl rfl|exact .inr (.inl rfl)|exact .inr (.inr rfl)⟩,ck⟩
end
def aha{x e:Int}(M: -9223372036854775808<=x*e)(R:x*e<9223372036854775808):bn .mul (.Z x) (.Z e)=some (.Z (x*e)):=by
 simp[bn,mB,mU,mi,lM,wrap64 M R]
def axt{c:Nat}(a:c<256):bn .sub (.int .u8 (c:Int)) (.int .u8 48)=some (.int .u8 (((c+208)%256:Nat):Int)):=by
 have w:qj .u8 ((c:Int) -48)=(((c+208)%256:Nat):Int):=by
  show((c:Int) -48)%256=_
  omega
 simp only[bn,mB,mU,mi,lD,fo,lM,w,HI]
def aDX(l:aY)(c:Nat):yI (l++[c])=yI l*10+(c-48):=by simp[yI,List.foldl_append]
section
variable{X:cl}{h S' aI aM:Q af}{j an aO aZ gA:Nat}{s:aY}{i:Nat}
def akG(s:aY)(ac:D):Prop:=∃bm E,ac= .tuple [.Z bm,E]/\β E/\(s≠[]->s.length<19->(∀c∈s,jc c=true)->E= .nilIface/\bm=(yI s:Int))
def apP(au:iY X)(aD:s.length<=65536)(ag:∀c∈s,c<256)(u3:DV s)(aE:(o X).a2<=j):
 aU X 115 [.str s] h j (λac S' an=>akG s ac/\ba X h j S' an) (λ_ _ _=>False):=by
 refine zz au.todj (alh X) ?_
 rw[ali]
 unfold φ
 by_cases aX:s=[]
 ·subst aX
  have iq:decide ((0:Int)<((0:Nat):Int))=false:=rfl
  refine cd @iq ⟨?_⟩
  refine(ahf au aD ag u3 aE).Zm ?_
  rintro ac a1 bi ⟨⟨bm,E,rfl,bC⟩,ck⟩
  refine cx ⟨?_⟩
  exact⟨⟨bm,E,rfl,bC,λa=>absurd rfl a⟩,ck⟩
 have ni:0<s.length:=Yk.2 aX
 have iq:decide ((0:Int)<(s.length:Int))=true:=by simp only[Zg];omega
 by_cases KV:s.length<19
 ·have cT:decide ((s.length:Int)<19)=true:=by simp only[Zg];omega
  obtain⟨c,tH⟩:∃c,s[0]? =some c:=⟨_,Ze ni⟩
  have dp:oB (.str s) (.Z 0)=some (.int .u8 (c:Int)):=CR (i:=0) .i64 tH
  have ax:=u3 c (Zl tH)
  have bQ:decide ((c:Int)=43)=false:=by simp only[Zb];omega
  have ct:decide ((c:Int)=45)=false:=by simp only[Zb];omega
  refine fO @iq @cT @dp @bQ @ct ⟨?_⟩
  refine acQ Zo ?_
  have TJ:U X (bj X h j (some (.cells (Q.ofList (s.map λn:Nat=>D.int .u8 (n:Int)) 0 .nil) s.length (.grow [])))) j=some (.cells (Q.ofList (s.map λn:Nat=>D.int .u8 (n:Int)) 0 .nil) s.length (.grow [])):=a7 aE
  have T8:ba X h j (bj X h j (some (.cells (Q.ofList (s.map λn:Nat=>D.int .u8 (n:Int)) 0 .nil) s.length (.grow [])))) (j+1):=dz
  generalize bj X h j (some (.cells (Q.ofList (s.map λn:Nat=>D.int .u8 (n:Int)) 0 .nil) s.length (.grow [])))=vF at*
  refine cx ⟨?_⟩
  refine fh (λm I S' aN=>∃(S n p:Nat),I.g 47=some (.fj j 0 s.length 1)/\I.g 48=some (.Z (s.length:Int))/\I.g 49=some (.Z (S:Int))/\I.g 6=some (.Z (n:Int))/\I.g 5=some (.str s)/\S+m=s.length/\p*10^m<=10^18/\n<p/\S'=vF/\j+1<=aN/\n=yI (s.take S))
   s.length ⟨0,0,1,a8,a8,fq,fq,a8,Zo,by rw[Nat.one_mul];exact Nat.pow_le_pow_right Zo Zo,Zo,rfl,Zo,rfl⟩ ?_
  rintro m I aM aZ ⟨S,n,p,XM,Ri,s2,eX,t5,bE,wB,aFT,rfl,lL,bB⟩
  have bx:ba X h j aM aZ:=⟨Zo,T8.aa⟩
  cases m with
  |zero=>
   have gu:=zt S s.length
   refine d9 @s2 @Ri @t5 @eX @gu @dp @ct ⟨?_⟩
   rw[ZA Zo]at bB
   exact⟨⟨_,_,rfl, .inl rfl,λ_ _ _=>⟨rfl,by rw[bB]⟩⟩,bx⟩
  |succ m=>
   have gu:=zu S s.length
   have bz:=zx S
   obtain⟨H,az⟩:∃c,s[S]? =some c:=⟨_,Ze Zo⟩
   have auq:=ag H (Zl az)
   have Lt:gy 1 (.fj j 0 s.length 1) (.Z (S:Int))=some (.ptr j S):=by rw[IN _ Zo];simp
   have wt:aP X aM (.ptr j S)=some (.int .u8 (H:Int)):=by rw[bc TJ,mZ];simp[az]
   have cF:=axt auq
   generalize bs:(H+208)%256=w at cF
   by_cases hT:9<w
   ·have g8:decide ((9:Int)<(w:Int))=true:=by simp only[Zg];omega
    refine d9 @s2 @Ri @XM @gu @Lt @wt (Za @cF @g8) ⟨?_⟩
    refine⟨⟨_,_,rfl, .inr (.inr rfl),λ_ _ k0=> ?_⟩,bx⟩
    have:=k0 H (Zl az)
    simp[jc]at this
    omega
   ·have g8:decide ((9:Int)<(w:Int))=false:=by simp only[Zb];omega
    have UL:48<=H/\H<=57/\w=H-48:=Zo
    have es:p*10<=10^18:=by
     have:p*10^(m+1)=(p*10)*10^m:=by rw[Nat.pow_succ];rw[Nat.mul_assoc,zq (10^m) 10]
     rw[this]at wB
     exact ZB (YY _ (Nat.pos_of_ne_zero Zs)) wB
    have dF:p*10*10^m<=10^18:=by
     have:p*10^(m+1)=(p*10)*10^m:=by rw[Nat.pow_succ];rw[Nat.mul_assoc,zq (10^m) 10]
     rw[this]at wB;exact wB
    have g1:p*10<=1000000000000000000:=es
    have f0:bn .mul (.Z (n:Int)) (.Z 10)=some (.Z ((n*10:Nat):Int)):=by rw[aha Zo Zo];rfl
    have kj:og .i64 (.int .u8 (w:Int))=some (.Z (w:Int)):=adb Zo Zo
    have qy:bn .add (.Z ((n*10:Nat):Int)) (.Z (w:Int))=some (.Z ((n*10+w:Nat):Int)):=by rw[en Zo Zo];rfl
    refine d9 @s2 @Ri @XM @gu @Lt @wt (Za @cF (Za @g8 (Za @eX (Za @f0 (Za @kj (Za @qy @bz)))))) ⟨?_⟩
    refine⟨m,Zo,S+1,n*10+w,p*10,aL XM,aL Ri,a8,a8,aL t5,Zo,dF,Zo,rfl,Zo, ?_⟩
    rw[ZQ,az]
    show _=yI (s.take S++[H])
    rw[aDX, <-bB,UL.2.2]
 ·have cT:decide ((s.length:Int)<19)=false:=by simp only[Zb];omega
  refine cI @iq @cT ⟨?_⟩
  refine(ahf au aD ag u3 aE).Zm ?_
  rintro ac a1 bi ⟨⟨bm,E,rfl,bC⟩,ck⟩
  refine cx ⟨?_⟩
  exact⟨⟨bm,E,rfl,bC,λ_ a=>absurd a KV⟩,ck⟩
def akH(s:aY)(ac:D):Prop:=∃bm E,ac= .tuple [.Z bm,E]/\(E= .nilIface\/∃b,E= .iface 181 (.ptr b 0))/\(s≠[]->s.length<19->(∀c∈s,jc c=true)->E= .nilIface/\bm=(yI s:Int))
def acA(au:iY X)(bU:mf X)(aD:s.length<=65536)(ag:∀c∈s,c<256)(u3:DV s)(aE:(o X).a2<=j):
 aU X 89 [.str s] h j (λac S' an=>akH s ac/\ba X h j S' an) (λ_ _ _=>False):=by
 refine zz au.todj (aou X) ?_
 rw[aov]
 unfold abQ
 refine(apP au aD ag u3 aE).Zm ?_
 rintro ac a1 bi ⟨⟨bm,E,rfl,bC,ae⟩,ck⟩
 have iO:=ck.le
 rcases bC with rfl|rfl|rfl
 ·refine cd @FU ⟨?_⟩
  exact⟨⟨_,_,rfl, .inl rfl,ae⟩,ck⟩
 ·refine cd @I4 ⟨?_⟩
  refine(On (j:=bi) (h:=a1) au bU [65,116,111,105] (.Z 0) (.Z 0) aD ag (ZB aE iO) (z:=1) Zd).Zm ?_
  rintro ac bA cK ⟨⟨b,rfl⟩,c0⟩
  refine cx ⟨?_⟩
  exact⟨⟨_,_,rfl, .inr ⟨b,rfl⟩,λM R ak=>absurd (ae M R ak).1 Zs⟩,ck.trans c0⟩
 ·refine cd @I4 ⟨?_⟩
  refine(On (j:=bi) (h:=a1) au bU [65,116,111,105] (.Z 0) (.Z 0) aD ag (ZB aE iO) (z:=2) Zd).Zm ?_
  rintro ac bA cK ⟨⟨b,rfl⟩,c0⟩
  refine cx ⟨?_⟩
  exact⟨⟨_,_,rfl, .inr ⟨b,rfl⟩,λM R ak=>absurd (ae M R ak).1 Zs⟩,ck.trans c0⟩
end
def lo(t:eu):Bool:=if t.b then !t.s&&decide (t.w=1)else decide (1<=t.w)&&decide (t.w<=64)
def jY(n:Nat):aY:=if n<10 then[48+n]else[48+n/10,48+n%10]
def n1(t:eu):aY:=if lo t then(if t.b then[98,111,111,108]else(if t.s then 105 else 117)::jY t.w.toNat)else[]
def lU:aY->Option eu
 |[]=>none
 |c::l=>if c::l=[98,111,111,108]then some ⟨true,false,1⟩
  else if c=105\/c=117 then((List.range 65).find? λn=>decide (1<=n)&&decide (jY n=l)).map λn:Nat=>⟨false,decide (c=105),(n:Int)⟩
  else none
section
variable{X:cl}{h S' aI aM:Q af}{j an aO aZ gA:Nat}{s:aY}{i:Nat}
def FQ(au:dj X)(t:eu)(aE:(o X).a2<=j):aU X 90 [.agg (eD t)] h j (λac S' an=>ac= .bool (lo t)/\ba X h j S' an) (λ_ _ _=>False):=by
 refine zz au (aoy X) ?_
 rw[aoz]
 unfold abS eD
 obtain⟨b,s,w⟩:=t
 cases b<;>cases s
 all_goals
  by_cases M:1<=w
  ·have cT:decide ((1:Int)<=w)=true:=by simp[M]
   refine cd @cT ⟨?_⟩
   exact⟨by simp[lo,M],dz⟩
  ·have cT:decide ((1:Int)<=w)=false:=by simp[M]
   refine cd @cT ⟨?_⟩
   exact⟨by simp[lo,M],dz⟩
def aCC:∀n<10,([48,49,50,51,52,53,54,55,56,57,97,98,99,100,101,102,103,104,105,106,107,108,109,110,111,112,113,114,115,116,117,118,119,120,121,122].drop n).take (n+1-n)=jY n:=by decide+kernel
def Re:aY:=[48,48,48,49,48,50,48,51,48,52,48,53,48,54,48,55,48,56,48,57,49,48,49,49,49,50,49,51,49,52,49,53,49,54,49,55,49,56,49,57,50,48,50,49,50,50,50,51,50,52,50,53,50,54,50,55,50,56,50,57,51,48,51,49,51,50,51,51,51,52,51,53,51,54,51,55,51,56,51,57,52,48,52,49,52,50,52,51,52,52,52,53,52,54,52,55,52,56,52,57,53,48,53,49,53,50,53,51,53,52,53,53,53,54,53,55,53,56,53,57,54,48,54,49,54,50,54,51,54,52,54,53,54,54,54,55,54,56,54,57,55,48,55,49,55,50,55,51,55,52,55,53,55,54,55,55,55,56,55,57,56,48,56,49,56,50,56,51,56,52,56,53,56,54,56,55,56,56,56,57,57,48,57,49,57,50,57,51,57,52,57,53,57,54,57,55,57,56,57,57]
def aCE:Re.length=200:=by decide+kernel
def aCD:∀n<100,10<=n->(Re.drop (n*2)).take (n*2+2-n*2)=jY n:=by decide+kernel
def P6(au:dj X){n:Nat}(aE:n<100):aU X 116 [.Z (n:Int)] h j (λac S' an=>ac= .str (jY n)/\S'=h/\an=j) (λ_ _ _=>False):=by
 refine zz au (alj X) ?_
 rw[alk]
 unfold χ
 refine zz au (alQ X) ?_
 rw[alR]
 unfold aan
 refine zz au (al4 X) ?_
 rw[al5]
 unfold aau
 have iq:decide ((0:Int)<=(n:Int))=true:=by simp only[Zg];omega
 have cT:decide ((n:Int)<100)=true:=by simp only[Zg];omega
 refine cI @iq @cT ⟨?_⟩
 refine zz au (ame X) ?_
 rw[amf]
 unfold aaz
 by_cases a:n<10
 ·have cy:decide ((n:Int)<10)=true:=by simp only[Zg];omega
  have bz:=zx n
  have cF:nw (.str [48,49,50,51,52,53,54,55,56,57,97,98,99,100,101,102,103,104,105,106,107,108,109,110,111,112,113,114,115,116,117,118,119,120,121,122]) (some (.Z (n:Int))) (some (.Z ((n+1:Nat):Int)))=some (.str (jY n)):=by
   rw[XA .i64 .i64 Zo Zx,aCC n a]
  refine dI @cy @bz @cF ⟨?_⟩
  exact⟨rfl,rfl,rfl⟩
 ·have cy:decide ((n:Int)<10)=false:=by simp only[Zb];omega
  have bz:bn .mul (.Z (n:Int)) (.Z 2)=some (.Z ((n*2:Nat):Int)):=by rw[aha Zo Zo];rfl
  have cF:bn .add (.Z ((n*2:Nat):Int)) (.Z 2)=some (.Z ((n*2+2:Nat):Int)):=by rw[en Zo Zo];rfl
  have f0:nw (.str Re) (some (.Z ((n*2:Nat):Int))) (some (.Z ((n*2+2:Nat):Int)))=some (.str (jY n)):=by
   rw[XA .i64 .i64 Zo (zs aCE),aCD n aE Zo]
  unfold Re at f0
  refine fI @cy @bz @cF @f0 ⟨?_⟩
  exact⟨rfl,rfl,rfl⟩
def aB7(au:dj X)(t:eu)(aE:(o X).a2<=j):aU X 91 [.agg (eD t)] h j (λac S' an=>ac= .str (n1 t)/\ba X h j S' an) (λ_ _ _=>False):=by
 refine zz au (aoA X) ?_
 rw[aoB]
 unfold abT
 have be:eD t=[.bool t.b, .bool t.s, .Z t.w]:=rfl
 rw[be]
 refine cx ⟨?_⟩
 refine eN (λaI=>U X aI j=zw [.bool t.b, .bool t.s, .Z t.w] 3/\ba X h j aI (j+1)) ⟨a7 aE,dz⟩ ?_
 rintro aI ⟨bI,bH⟩
 refine(FQ au t Zo).Zm ?_
 rintro ac aM aZ ⟨rfl,bx⟩
 have fJ:=bx.le
 have bU:=bH.trans bx
 have bN:U X aM j=zw [.bool t.b, .bool t.s, .Z t.w] 3:=by rw[bx.aa _ Zo];exact bI
 have dB:aP X aM (.ptr j 0)=some (.bool t.b):=by rw[bc bN];rfl
 have cX:aP X aM (.ptr j 1)=some (.bool t.s):=by rw[bc bN];rfl
 have dN:aP X aM (.ptr j 2)=some (.Z t.w):=by rw[bc bN];rfl
 cases bp:lo t with
 |false=>
  refine cx ⟨?_⟩
  exact⟨by simp[n1,bp],bU⟩
 |true=>
  cases kp:t.b with
  |true=>
   rw[kp]at dB
   refine cd @dB ⟨?_⟩
   exact⟨by simp[n1,bp,kp],bU⟩
  |false=>
   rw[kp]at dB
   have bs:1<=t.w/\t.w<=64:=by simpa[lo,kp]using bp
   obtain⟨w,AS⟩:=Ye (by omega:0<=t.w)
   rw[AS]at dN
   have aG:jY t.w.toNat=jY w:=by rw[AS];rfl
   have fg:(jY w).length<=2:=by unfold jY;split<;>simp
   have uG:∀h c,c5 X h .add 9 true (.str [c]) (.str (jY w))=some (.str (c::jY w)):=λh c=>by
    have:Nat.ble ([c].length+(jY w).length) 1000000000=true:=lC Zx
    simp only[c5,BN,this,fo];rfl
   cases kJ:t.s with
   |true=>
    rw[kJ]at cX
    refine dI @dB @cX @dN ⟨?_⟩
    refine(P6 au Zo).Zm ?_
    rintro ac a1 bi ⟨rfl,rfl,rfl⟩
    refine cd @uG ⟨?_⟩
    exact⟨by simp[n1,bp,kp,kJ,aG],bU⟩
   |false=>
    rw[kJ]at cX
    refine dI @dB @cX @dN ⟨?_⟩
    refine(P6 au Zo).Zm ?_
    rintro ac a1 bi ⟨rfl,rfl,rfl⟩
    refine cd @uG ⟨?_⟩
    exact⟨by simp[n1,bp,kp,kJ,aG],bU⟩
end
def Md{n:Nat}(a:n<100):jY n≠[]/\(jY n).length<19/\(∀c∈jY n,jc c=true)/\yI (jY n)=n:=by
 unfold jY
 split
 ·refine⟨Zs,Zs, ?_, ?_⟩
  ·intro c ax;simp at ax;subst ax;simp[jc];omega
  ·simp[yI]
 ·refine⟨Zs,Zs, ?_, ?_⟩
  ·intro c ax;simp at ax;rcases ax with rfl|rfl<;>simp[jc]<;>omega
  ·simp[yI];omega
def Rm(c:Nat)(l:aY):lU (c::l)=if c::l=[98,111,111,108]then some ⟨true,false,1⟩
 else if c=105\/c=117 then((List.range 65).find? λn=>decide (1<=n)&&decide (jY n=l)).map λn:Nat=>⟨false,decide (c=105),(n:Int)⟩
 else none:=rfl
def Na{c:Nat}{l:aY}{t:eu}(a:lU (c::l)=some t)(ag:c::l≠[98,111,111,108]):(c=105\/c=117)/\∃n:Nat,1<=n/\n<=64/\jY n=l/\t=⟨false,decide (c=105),(n:Int)⟩:=by
 rw[Rm]at a
 rw[Zh ag]at a
 split at a
 ·rename_i ax
  refine⟨ax, ?_⟩
  simp only[Yg]at a
  obtain⟨n,M,R⟩:=a
  have ak:=List.find?_some M
  have aA:=List.mem_of_find?_eq_some M
  simp at ak aA
  exact⟨n,ak.1,Zo,ak.2,R.symm⟩
 ·cases a
def ajV{c:Nat}{l:aY}(a:lU (c::l)=none)(ax:c=105\/c=117){n:Nat}(M:1<=n)(R:n<=64):jY n≠l:=by
 intro aE
 rw[Rm]at a
 split at a
 ·cases a
 ·first
  |rw[Zr ax]at a
  |skip
  simp at a
  exact a n Zo M aE
def ba.set{C:aK}{h aI:Q af}{j aO b aN:Nat}{cU:Option af}(a:ba C h j aI aO)(ag:j<=b)(aX:C.a2<=j)(aE:aO<=aN):ba C h j (bj C aI b cU) aN:=
 ⟨ZB a.le aE,λe B=>by rw[aB Zo Zo];exact a.aa e B⟩
section
variable{X:cl}{h S' aI aM:Q af}{j an aO aZ gA:Nat}{s:aY}{i:Nat}
def ajU(au:iY X)(bU:mf X)(aD:s.length<=65536)(ag:∀c∈s,c<256)(u3:DV s)(aE:(o X).a2<=j):
 aU X 66 [.str s] h j (λac S' an=>ac= .tuple [.agg (eD ((lU s).getD dU)), .bool (lU s).isSome]/\ba X h j S' an) (λ_ _ _=>False):=by
 refine zz au.todj (anO X) ?_
 rw[anP]
 unfold abp
 by_cases x0:s=[98,111,111,108]
 ·have d:decide (s=[98,111,111,108])=true:=by simp[x0]
  refine cd @d ⟨?_⟩
  exact⟨by subst x0;rfl,dz⟩
 have d:decide (s=[98,111,111,108])=false:=by simp[x0]
 cases s with
 |nil=>
  have cy:decide (([]:List Nat)=[])=true:=rfl
  refine cI @d @cy ⟨?_⟩
  exact⟨rfl,dz⟩
 |cons c l=>
  have cy:decide (c::l=[])=false:=by simp
  have dp:oB (.str (c::l)) (.Z 0)=some (.int .u8 (c:Int)):=CR (i:=0) .i64 rfl
  by_cases ax:c=105\/c=117
  ·have g2:nw (.str (c::l)) (some (.Z 1)) none=some (.str l):=Rc (l:=1) .i64 Zs
   have fg:l.length<=65536:=by simp at aD;omega
   have ws:∀c∈l,c<256:=λx ae=>ag x (Zw _ ae)
   have avE:DV l:=λx ae=>u3 x (Zw _ ae)
   have e1:∃bY co,decide ((c:Int)≠117)=bY/\decide ((c:Int)≠105)=co/\(bY=false\/bY=true/\co=false):=by
    rcases ax with rfl|rfl
    ·exact⟨true,false,rfl,rfl, .inr ⟨rfl,rfl⟩⟩
    ·exact⟨false,true,rfl,rfl, .inl rfl⟩
   obtain⟨bY,co,e1,i6,wd⟩:=e1
   have gu:decide ((c:Int)=105)=decide (c=105):=by simp;omega
   rcases wd with rfl|⟨rfl,rfl⟩
   all_goals
    refine hu @d @cy @dp @e1 @i6 @g2 ⟨?_⟩
    refine eN (λaI=>U X aI j=zw [.zF, .zF, .Z 0] 3/\ba X h j aI (j+1)) ⟨a7 aE,dz⟩ ?_
    rintro aI ⟨bI,bH⟩
    refine(acA au bU fg ws avE Zo).Zm ?_
    rintro ac aM aZ ⟨⟨bm,E,rfl,bC,ae⟩,bx⟩
    have fJ:=bx.le
    have bN:U X aM j=zw [.zF, .zF, .Z 0] 3:=by rw[bx.aa _ Zo];exact bI
    have hv:=bH.trans bx
    refine cI @dp @gu ⟨?_⟩
    generalize fl:bj X _ aZ _=a1
    have cH:U X a1 j=zw [.zF, .zF, .Z 0] 3:=by rw[<-fl];simp(disch:=omega) only[aB];exact bN
    have dg:U X a1 aZ=zw [.zF, .bool (decide (c=105)), .Z bm] 3:=by rw[<-fl];rw[a7 Zo];rfl
    have ck:ba X h j a1 (aZ+1):=hv.trans (by rw[<-fl];exact dz)
    clear fl
    rcases bC with rfl|⟨b,rfl⟩
    ·refine cI @FU (bc dg) ⟨?_⟩
     refine(FQ (j:=aZ+1) (h:=a1) au.todj ⟨false,decide (c=105),bm⟩ (ZB aE ck.le)).Zm ?_
     rintro ac bA cK ⟨rfl,c0⟩
     have iF:=c0.le
     have fT:U X bA j=zw [.zF, .zF, .Z 0] 3:=by rw[c0.aa _ Zo];exact cH
     have dZ:U X bA aZ=zw [.zF, .bool (decide (c=105)), .Z bm] 3:=by rw[c0.aa _ Zo];exact dg
     cases bp:lo ⟨false,decide (c=105),bm⟩with
     |false=>
      have be:lU (c::l)=none:=by
       cases be:lU (c::l)with
       |none=>rfl
       |some t=>
        obtain⟨_,n,M,R,ak,rfl⟩:=Na be x0
        obtain⟨cN,cA,eb,fW⟩:=Md (by omega:n<100)
        rw[ak]at cN cA eb fW
        have:=(ae cN cA eb).2
        rw[fW]at this
        subst this
        simp[lo]at bp
        omega
      rw[be]
      refine cd (bc fT) ⟨?_⟩
      exact⟨rfl,ba.set (ck.trans c0) Zo aE Zo⟩
     |true=>
      have ch:1<=bm/\bm<=64:=by simpa[lo]using bp
      obtain⟨n,rfl⟩:=Ye (by omega:0<=bm)
      refine cd (bc dZ) ⟨?_⟩
      refine(aB7 (j:=cK) (h:=bA) au.todj ⟨false,decide (c=105),(n:Int)⟩ Zo).Zm ?_
      rintro ac bM bX ⟨rfl,dC⟩
      have ik:=dC.le
      have d8:U X bM j=zw [.zF, .zF, .Z 0] 3:=by rw[dC.aa _ Zo];exact fT
      have fH:U X bM aZ=zw [.zF, .bool (decide (c=105)), .Z (n:Int)] 3:=by rw[dC.aa _ Zo];exact dZ
      have Fg:n1 ⟨false,decide (c=105),(n:Int)⟩=c::jY n:=by
       rcases ax with rfl|rfl<;>simp[n1,bp]<;>simp_all
      have KZ:=(ck.trans c0).trans dC
      by_cases aC:jY n=l
      ·have be:lU (c::l)=some ⟨false,decide (c=105),(n:Int)⟩:=by
        cases be:lU (c::l)with
        |none=>exact absurd aC (ajV be ax Zo Zo)
        |some t=>
         obtain⟨_,aN,M,R,ak,rfl⟩:=Na be x0
         obtain⟨cN,cA,eb,fW⟩:=Md (by omega:n<100)
         obtain⟨_,_,_,m2⟩:=Md (by omega:aN<100)
         rw[ak, <-aC,fW]at m2
         rw[m2]
       have g8:decide (n1 ⟨false,decide (c=105),(n:Int)⟩≠c::l)=false:=by rw[Fg,aC];simp
       rw[be]
       refine cI @g8 (bc fH) ⟨?_⟩
       refine⟨rfl,ba.set KZ Zo aE Zo⟩
      ·have be:lU (c::l)=none:=by
        cases be:lU (c::l)with
        |none=>rfl
        |some t=>
         obtain⟨_,aN,M,R,ak,rfl⟩:=Na be x0
         obtain⟨cN,cA,eb,fW⟩:=Md (by omega:aN<100)
         rw[ak]at cN cA eb fW
         have:=(ae cN cA eb).2
         rw[fW]at this
         have:n=aN:=Zo
         subst this
         exact absurd ak aC
       have g8:decide (n1 ⟨false,decide (c=105),(n:Int)⟩≠c::l)=true:=by rw[Fg];simp[aC]
       rw[be]
       refine cd @g8 ⟨?_⟩
       exact⟨rfl,ba.set KZ Zo aE Zo⟩
    ·have be:lU (c::l)=none:=by
      cases be:lU (c::l)with
      |none=>rfl
      |some t=>
       obtain⟨_,n,M,R,ak,rfl⟩:=Na be x0
       obtain⟨cN,cA,eb,fW⟩:=Md (by omega:n<100)
       rw[ak]at cN cA eb fW
       exact absurd (ae cN cA eb).1 Zs
     rw[be]
     refine cd @aik ⟨?_⟩
     exact⟨rfl,ba.set ck Zo aE Zo⟩
  ·have e1:decide ((c:Int)≠117)=true:=by simp only[Zg];omega
   have i6:decide ((c:Int)≠105)=true:=by simp only[Zg];omega
   refine fO @d @cy @dp @e1 @i6 ⟨?_⟩
   have be:lU (c::l)=none:=by rw[Rm];rw[Zh x0,Zh ax]
   rw[be]
   exact⟨rfl,dz⟩
end
def Dk(w:Int):Int:=(18446744073709551615:Int).fdiv (2^(min (64-w).toNat 64))
def Ke(x e:Int):Int:=qj .u64 ((BitVec.ofInt 64 x&&& ~~~ BitVec.ofInt 64 e).toNat)
def Fw(t:eu)(n:Int):Bool:=lo t&&decide (Ke n (Dk t.w)=0)
def wz(t:eu)(n:Int):Bool:=if t.s then(if t.w-1=0 then decide (n=0)else Fw ⟨false,false,t.w-1⟩ n)else Fw t n
def wU:List aY:=[[110,111,100,101],[114,101,116,117,114,110,115],[118,97,114],[108,101,116],[116,101,108],[119,104,101,110],[110,111,116],[112,114,101],[102,98,121],[109,101,114,103,101],
 [105,102],[116,104,101,110],[101,108,115,101],[97,110,100],[111,114],[120,111,114],[116,114,117,101],[102,97,108,115,101]]
structure ND(X:cl):Prop where
 at_:∃v,∀h,aP X h (.ptr 1 0)=some v/\∀s:aY,nU X h 9 .zF v (.str s) false=some (.bool (decide (s∈wU)))
section
variable{X:cl}{h S' aI aM:Q af}{j an aO aZ gA:Nat}{s:aY}{i:Nat}
def aBC(au:dj X)(d6:ND X)(s:aY):aU X 68 [.str s] h j (λac S' an=>ac= .bool (decide (s∈wU))/\S'=h/\an=j) (λ_ _ _=>False):=by
 refine zz au (anS X) ?_
 rw[anT]
 unfold abr
 obtain⟨v,bB⟩:=d6.at_
 obtain⟨M,R⟩:=bB h
 have ak:=R s
 refine cI @M @ak ⟨?_⟩
 exact⟨rfl,rfl,rfl⟩
def aAp(au:dj X)(t:eu)(be:1<=t.w/\t.w<=64)(aE:(o X).a2<=j):aU X 117 [.agg (eD t)] h j (λac S' an=>ac= .int .u64 (Dk t.w)/\ba X h j S' an) (λ_ _ _=>False):=by
 refine zz au (alm X) ?_
 rw[aln]
 unfold ψ eD
 have bz:bn .sub (.Z 64) (.Z t.w)=some (.Z (64-t.w)):=wD Zo Zo
 have cF:bn .shr (.int .u64 18446744073709551615) (.Z (64-t.w))=some (.int .u64 (Dk t.w)):=by
  have:decide ((64-t.w)<0)=false:=by simp only[Zb];omega
  simp only[bn,mB,fo,Kb,u9,this,lD,qO,HI]
  rfl
 refine cI @bz @cF ⟨?_⟩
 exact⟨rfl,dz⟩
def Qt{t:eu}(a:lo t=true):1<=t.w/\t.w<=64:=by
 unfold lo at a
 split at a<;>simp at a<;>omega
def ahh(au:dj X)(t:eu)(n:Int)(aE:(o X).a2<=j):aU X 92 [.agg (eD t), .int .u64 n] h j (λac S' an=>ac= .bool (Fw t n)/\ba X h j S' an) (λ_ _ _=>False):=by
 refine zz au (aoC X) ?_
 rw[aoD]
 unfold abU
 have be:eD t=[.bool t.b, .bool t.s, .Z t.w]:=rfl
 rw[be]
 refine cx ⟨?_⟩
 refine eN (λaI=>U X aI j=zw [.bool t.b, .bool t.s, .Z t.w] 3/\ba X h j aI (j+1)) ⟨a7 aE,dz⟩ ?_
 rintro aI ⟨bI,bH⟩
 refine(FQ au t Zo).Zm ?_
 rintro ac aM aZ ⟨rfl,bx⟩
 have fJ:=bx.le
 have bU:=bH.trans bx
 have bN:U X aM j=zw [.bool t.b, .bool t.s, .Z t.w] 3:=by rw[bx.aa _ Zo];exact bI
 cases bp:lo t with
 |false=>
  refine cx ⟨?_⟩
  exact⟨by simp[Fw,bp],bU⟩
 |true=>
  refine cd (bc bN) ⟨?_⟩
  refine(aAp (j:=aZ) (h:=aM) au t (Qt bp) Zo).Zm ?_
  rintro ac a1 bi ⟨rfl,ck⟩
  have bz:bn .andNot (.int .u64 n) (.int .u64 (Dk t.w))=some (.int .u64 (Ke n (Dk t.w))):=by
   simp only[bn,mB,lD,mU,fo,mi,lM,HI];rfl
  refine cd @bz ⟨?_⟩
  exact⟨by simp[Fw,bp],bU.trans ck⟩
def av3(au:dj X)(t:eu)(be:lo t=true)(n:Int)(aE:(o X).a2<=j):aU X 67 [.agg (eD t), .int .u64 n] h j (λac S' an=>ac= .bool (wz t n)/\ba X h j S' an) (λ_ _ _=>False):=by
 refine zz au (anQ X) ?_
 rw[anR]
 unfold abq
 have bs:=Qt be
 have gx:eD t=[.bool t.b, .bool t.s, .Z t.w]:=rfl
 rw[gx]
 have bz:bn .sub (.Z t.w) (.Z 1)=some (.Z (t.w-1)):=wD Zo Zo
 cases kJ:t.s with
 |false=>
  refine cx ⟨?_⟩
  refine eN (λaI=>ba X h j aI (j+1)) dz ?_
  intro aI bH
  have:=ahh (j:=j+1) (h:=aI) au t n Zo
  rw[gx,kJ]at this
  refine this.Zm ?_
  rintro ac aM aZ ⟨rfl,bx⟩
  refine cx ⟨?_⟩
  exact⟨by simp[wz,kJ],bH.trans bx⟩
 |true=>
  by_cases aX:t.w-1=0
  ·have d:decide (t.w-1=0)=true:=by simp[aX]
   refine cI @bz @d ⟨?_⟩
   refine f8 (iH (z:=3) (b:=j) (W:=0) (n:=3) (c:=Q.ofList [.bool t.b, .zT, .Z t.w] 0 .nil) (a7 aE) Zo rfl Zd Zd rfl) ?_
   refine cd @d ⟨?_⟩
   exact⟨by simp[wz,kJ,aX],dz⟩
  ·have d:decide (t.w-1=0)=false:=by simp[aX]
   refine cI @bz @d ⟨?_⟩
   refine f8 (iH (z:=3) (b:=j) (W:=0) (n:=3) (c:=Q.ofList [.bool t.b, .zT, .Z t.w] 0 .nil) (a7 aE) Zo rfl Zd Zd rfl) ?_
   refine cd @d ⟨?_⟩
   refine eN (λaI=>ba X h j aI (j+1)) dz ?_
   intro aI bH
   refine(ahh (j:=j+1) (h:=aI) au ⟨false,false,t.w-1⟩ n Zo).Zm ?_
   rintro ac aM aZ ⟨rfl,bx⟩
   refine cx ⟨?_⟩
   exact⟨by simp[wz,kJ,aX],bH.trans bx⟩
end
def vf(s:aY)(i:Nat):Tok×Bool:=
 let w:=(s.drop i).takeWhile jr
 (⟨if (lU w).isSome then 3 else if w∈wU then 2 else 1,w,0,0,(lU w).getD dU⟩,decide (w.length<=32))
def aiv{l:aY}(a:∀c∈l,jr c=true):DV l:=by
 intro c ax
 have:=a c ax
 simp[jr,rK,jc]at this
 omega
def ajN{α:Type}(p:α->Bool):∀l:List α,∀c∈l.takeWhile p,p c=true:=by
 intro l
 induction l with
 |nil=>simp
 |cons H l ai=>
  intro c ax
  rw[YC]at ax
  split at ax
  ·rcases Zt.1 ax with rfl|ax
   ·assumption
   ·exact ai c ax
  ·simp at ax
section
variable{X:cl}{h S' aI aM:Q af}{j an aO aZ gA:Nat}{s:aY}{i:Nat}
def WQ(Y:nF X h gA s i)(ag:∀c∈s,c<256)(S:Nat)(p:Nat->Bool)(aw:∀c,p c=true->jr c=true):((s.drop S).takeWhile p).length<=65536/\(∀c∈(s.drop S).takeWhile p,c<256)/\DV ((s.drop S).takeWhile p):=by
 have M:=Gz p (s.drop S)
 rw[Yx]at M
 have:=Y.many
 refine⟨Zo,λc ax=>ag c (zb ((List.takeWhile_sublist p).subset ax)),aiv λc ax=>aw c (ajN p _ c ax)⟩
def aEi(au:iY X)(bU:mf X)(d6:ND X)(Y:nF X h gA s i)(ag:∀c∈s,c<256)(aE:(o X).a2<=j)(LQ:gA<j):
 aU X 43 [.ptr gA 0] h j (λac S' an=>ac= .tuple [.agg (cf (vf s i).1), .bool (vf s i).2]/\ba X h j S' an) (λ_ _ _=>False):=by
 refine zz au.todj (am4 X) ?_
 rw[am5]
 unfold aa0
 have cX:=Y.cX
 have is:=Y.b3
 obtain⟨cN,cA,eb⟩:=WQ Y ag i jr (λ_ a=>a)
 have mS:∀cU,nF X (bj X h j cU) gA s i:=λcU=>Y.aa (aB aE Zo)
 refine cd @cX ⟨?_⟩
 refine(Q6 au.todj (ajk au.todj) (mS _) Y.le).Zm ?_
 rintro ac aM aZ ⟨rfl,rfl,rfl⟩
 unfold vf
 generalize (s.drop i).takeWhile jr=w at*
 simp only[]
 refine cx ⟨?_⟩
 refine eN (λaI=>U X aI j=zw [.Z 0, .str [], .Z 0, .int .u64 0, .zF, .zF, .Z 0] 7/\U X aI (j+1)=zw [.Z 1, .str w, .Z 0, .int .u64 0, .zF, .zF, .Z 0] 7/\ba X h j aI (j+1+1)) ⟨by simp(disch:=omega) only[aB,a7]<;>rfl,by rw[a7 Zo];rfl,dz⟩ ?_
 rintro aI ⟨bI,bN,bH⟩
 refine(ajU au bU cN cA eb Zo).Zm ?_
 rintro ac a1 bi ⟨rfl,ck⟩
 have iO:=ck.le
 have qC:=bH.trans ck
 have cH:U X a1 j=zw [.Z 0, .str [], .Z 0, .int .u64 0, .zF, .zF, .Z 0] 7:=by rw[ck.aa _ Zo];exact bI
 have dg:U X a1 (j+1)=zw [.Z 1, .str w, .Z 0, .int .u64 0, .zF, .zF, .Z 0] 7:=by rw[ck.aa _ Zo];exact bN
 generalize be:(lU w).getD dU=t
 have AM:eD t=[.bool t.b, .bool t.s, .Z t.w]:=rfl
 rw[AM]
 have Ab:decide ((w.length:Int)<=32)=decide (w.length<=32):=by simp;omega
 have fin:∀(bZ:Q af) (dy:Nat) (z:Int) (hp:eu) (vI:Q D),bi<=dy->ba X h j bZ dy->U X bZ (j+1)=some (.cells vI 7 .own)->U X bZ j=zw [.Z 0, .str [], .Z 0, .int .u64 0, .zF, .zF, .Z 0] 7->
  vI.get 0=some (.Z z)->vI.get 1=some (.str w)->vI.get 2=some (.Z 0)->vI.get 3=some (.int .u64 0)->vI.get 4=some (.bool hp.b)->vI.get 5=some (.bool hp.s)->vI.get 6=some (.Z hp.w)->
  ap (cG X bZ 7 (.ptr (j+1) 0)) λaDO=>ap (nq (.str w)) λaDP=>ap (bn .leq aDP (.Z 32)) λaDQ=>ap (gq X bZ 7 (.ptr j 0) aDO) λab5=>ap (cG X ab5 7 (.ptr j 0)) λv37=>
   D.tuple [v37,aDQ]= .tuple [.agg (cf ⟨z,w,0,0,hp⟩), .bool (decide (w.length<=32))]/\ba X h j ab5 dy:=by
  intro bZ dy z hp vI aFM el dZ d8 wF bQ ct c1 dJ d7 c3
  have fy:=ks dZ wF;have eo:=ks dZ bQ;have cR:=ks dZ ct;have eQ:=ks dZ c1;have hl:=ks dZ dJ;have g3:=ks dZ d7;have ma:=ks dZ c3
  refine d9 @fy @eo @cR @eQ @hl @g3 (Za @ma @Ab) ⟨?_⟩
  exact⟨rfl,ba.set el (Zj _) aE (Zj _)⟩
 cases tS:(lU w).isSome with
 |true=>
  refine ih ⟨?_⟩
  refine ih ⟨?_⟩
  refine ih ⟨?_⟩
  refine ih ⟨?_⟩
  refine ih ⟨?_⟩
  generalize eS:bj X _ bi _=bA
  have fT:U X bA bi=zw [.bool t.b, .bool t.s, .Z t.w] 3:=by rw[<-eS,a7 Zo];rfl
  have dZ:U X bA j=zw [.Z 0, .str [], .Z 0, .int .u64 0, .zF, .zF, .Z 0] 7:=by rw[<-eS];simp(disch:=omega) only[aB];exact cH
  have d8:U X bA (j+1)=zw [.Z 1, .str w, .Z 0, .int .u64 0, .zF, .zF, .Z 0] 7:=by rw[<-eS];simp(disch:=omega) only[aB];exact dg
  have c0:ba X h j bA (bi+1):=qC.trans (by rw[<-eS];exact dz)
  clear eS cH dg
  refine cd (bc fT) ⟨?_⟩
  refine f4 (by simp[D.same,lO,oI]) ?_
  generalize jI:bj X bA (j+1) _=bM
  have bv:∀e,e≠j+1->U X bM e=U X bA e:=λe B=>by rw[<-jI,aB Zo B]
  have fH:U X bM (j+1)=some (.cells (dS (Q.ofList [.Z 1, .str w, .Z 0, .int .u64 0, .zF, .zF, .Z 0] 0 .nil) 0 [.Z 3]) 7 .own):=by rw[<-jI,a7 Zo];rfl
  rw[<-bv _ Zo]at fT dZ
  have dC:ba X h j bM (bi+1):=⟨c0.le,λe B=>by rw[bv e Zo];exact c0.aa e B⟩
  clear jI bv d8
  refine f8 (iH (z:=3) (b:=j+1) (W:=4) (n:=7) fH Zo rfl Zd Zd rfl) ?_
  generalize f9:bj X bM (j+1) _=bZ
  have b9:∀e,e≠j+1->U X bZ e=U X bM e:=λe B=>by rw[<-f9,aB Zo B]
  have lH:U X bZ (j+1)=some (.cells (dS (dS (Q.ofList [.Z 1, .str w, .Z 0, .int .u64 0, .zF, .zF, .Z 0] 0 .nil) 0 [.Z 3]) 4 [.bool t.b, .bool t.s, .Z t.w]) 7 .own):=by rw[<-f9,a7 Zo];rfl
  rw[<-b9 _ Zo]at dZ
  have el:ba X h j bZ (bi+1+5):=⟨zs dC.le,λe B=>by rw[b9 e Zo];exact dC.aa e B⟩
  clear f9 b9 fH
  have:=fin bZ (bi+1+5) 3 t _ Zo el lH dZ rfl rfl rfl rfl rfl rfl rfl
  simp only[ZE]
  refine ih ⟨?_⟩
  exact this
 |false=>
  have VT:t=dU:=by
   rw[<-be]
   cases b0:lU w with
   |none=>rfl
   |some t=>rw[b0]at tS;cases tS
  refine cx ⟨?_⟩
  refine eN (λbA=>ba X a1 bi bA (bi+1)) dz ?_
  intro bA c0
  have Aq:=qC.trans c0
  have dZ:U X bA j=zw [.Z 0, .str [], .Z 0, .int .u64 0, .zF, .zF, .Z 0] 7:=by rw[c0.aa _ Zo];exact cH
  have d8:U X bA (j+1)=zw [.Z 1, .str w, .Z 0, .int .u64 0, .zF, .zF, .Z 0] 7:=by rw[c0.aa _ Zo];exact dg
  refine(aBC (j:=bi+1) (h:=bA) au.todj d6 w).Zm ?_
  rintro ac bM bX ⟨rfl,rfl,rfl⟩
  subst VT
  simp only[Zy,ZD]
  by_cases k2:w∈wU
  ·simp only[k2,YE,ZE]
   refine ih ⟨?_⟩
   refine ih ⟨?_⟩
   refine ih ⟨?_⟩
   refine f8 (iH (z:=1) (b:=j+1) (W:=0) (n:=7) d8 Zo rfl Zd Zd rfl) ?_
   generalize f9:bj X _ (j+1) _=bZ
   have b9:∀e,e≠j+1->U X bZ e=U X bM e:=λe B=>by rw[<-f9,aB Zo B]
   have lH:U X bZ (j+1)=some (.cells (dS (Q.ofList [.Z 1, .str w, .Z 0, .int .u64 0, .zF, .zF, .Z 0] 0 .nil) 0 [.Z 2]) 7 .own):=by rw[<-f9,a7 Zo];rfl
   rw[<-b9 _ Zo]at dZ
   have el:ba X h j bZ (bi+1):=⟨Aq.le,λe B=>by rw[b9 e Zo];exact Aq.aa e B⟩
   have:=fin bZ (bi+1) 2 dU _ Zo el lH dZ rfl rfl rfl rfl rfl rfl rfl
   refine ih ⟨?_⟩
   exact this
  ·simp only[k2,Yh,ZD]
   have:=fin bM (bi+1) 1 dU _ Zo Aq d8 dZ rfl rfl rfl rfl rfl rfl rfl
   refine ih ⟨?_⟩
   refine ih ⟨?_⟩
   refine ih ⟨?_⟩
   exact this
end
def F1(s:aY)(i:Nat):Option Tok:=
 let d:=(s.drop i).takeWhile jc
 if (k6 d).2≠0\/20<d.length then none
 else
  let Xu:=(s.drop (i+d.length)).takeWhile jr
  if Xu=[]then some ⟨4,d,0,(k6 d).1,dU⟩
  else match lU Xu with
   |some t=>if !t.b&&wz t (k6 d).1 then some ⟨5,d++Xu,0,(k6 d).1,t⟩else none
   |none=>none
def XR:∀{w:aY}{t:eu},lU w=some t->lo t=true:=by
 intro w t a
 cases w with
 |nil=>cases a
 |cons c l=>
  by_cases ag:c::l=[98,111,111,108]
  ·rw[Rm,Zr ag]at a
   cases a
   rfl
  ·obtain⟨_,n,M,R,_,rfl⟩:=Na a ag
   simp[lo];omega
section
variable{X:cl}{h S' aI aM:Q af}{j an aO aZ gA:Nat}{s:aY}{i:Nat}
def az3(au:iY X)(bU:mf X)(Y:nF X h gA s i)(ag:∀c∈s,c<256)(aE:(o X).a2<=j)(LQ:gA<j):
 aU X 41 [.ptr gA 0] h j (λac S' an=>(∃z,ac= .tuple [.agg (cf z), .bool (F1 s i).isSome]/\∀x,F1 s i=some x->z=x)/\ba X h j S' an) (λ_ _ _=>False):=by
 refine zz au.todj (am0 X) ?_
 rw[am1]
 unfold aaY
 have cX:=Y.cX
 have is:=Y.b3
 have l5:=Y.le
 have aF8:=Y.many
 obtain⟨cN,cA,eb⟩:=WQ Y ag i jc (λc a=>by simp[jr,a])
 have Gf:=Gz jc (s.drop i)
 rw[Yx]at Gf
 have mS:∀cU,nF X (bj X h j cU) gA s i:=λcU=>Y.aa (aB aE Zo)
 refine cd @cX ⟨?_⟩
 refine(Q6 au.todj (aBP au.todj) (mS _) Y.le).Zm ?_
 rintro ac aM aZ ⟨rfl,rfl,rfl⟩
 generalize jn:F1 s i=N
 unfold F1 at jn
 simp only[]at jn
 generalize (s.drop i).takeWhile jc=d at*
 refine cx ⟨?_⟩
 refine eN (λaI=>U X aI j=zw [.Z 0, .str [], .Z 0, .int .u64 0, .zF, .zF, .Z 0] 7/\ba X h j aI (j+1)) ⟨by simp(disch:=omega) only[aB,a7]<;>rfl,dz⟩ ?_
 rintro aI ⟨bI,bH⟩
 refine(aAN au bU cN cA Zo).Zm ?_
 rintro ac a1 bi ⟨⟨E,rfl,bC⟩,ck⟩
 have iO:=ck.le
 have qC:=bH.trans ck
 have cH:U X a1 j=zw [.Z 0, .str [], .Z 0, .int .u64 0, .zF, .zF, .Z 0] 7:=by rw[ck.aa _ Zo];exact bI
 have AI:=Y.aa (qC.aa gA LQ)
 have aGP:D.agg [.Z 0, .str [], .Z 0, .int .u64 0, .zF, .zF, .Z 0]= .agg (cf hq):=rfl
 rcases bC with ⟨aX,rfl⟩|⟨aX,b,rfl⟩
 ·by_cases fg:20<d.length
  ·rw[Zr (.inr fg)]at jn
   subst jn
   have cT:decide ((20:Int)<(d.length:Int))=true:=by simp only[Zg];omega
   refine cI @FU @cT ⟨?_⟩
   exact⟨⟨hq,rfl,λx a=>by cases a⟩,ba.set qC Zo aE Zo⟩
  have cT:decide ((20:Int)<(d.length:Int))=false:=by simp only[Zb];omega
  rw[Zh (by rintro(a|a);exact a aX;exact fg a)]at jn
  have g6:=AI.cX
  have bz:bn .add (.Z (i:Int)) (.Z (d.length:Int))=some (.Z ((i+d.length:Nat):Int)):=by rw[en Zo Zo];rfl
  refine fI @FU @cT @g6 @bz ⟨?_⟩
  refine(Q6 au.todj (ajk au.todj) AI Zo).Zm ?_
  rintro ac bA cK ⟨rfl,rfl,rfl⟩
  obtain⟨fQ,hY,yv⟩:=WQ AI ag (i+d.length) jr (λ_ a=>a)
  generalize (s.drop (i+d.length)).takeWhile jr=w at*
  by_cases bs:w=[]
  ·have cy:decide (w=[])=true:=by simp[bs]
   rw[Zr bs]at jn
   subst jn
   refine cd @cy ⟨?_⟩
   exact⟨⟨⟨4,d,0,(k6 d).1,dU⟩,rfl,λx a=>by cases a;rfl⟩,ba.set qC Zo aE Zo⟩
  have cy:decide (w=[])=false:=by simp[bs]
  rw[Zh bs]at jn
  refine cd @cy ⟨?_⟩
  refine(ajU au bU fQ hY yv Zo).Zm ?_
  rintro ac bM bX ⟨rfl,dC⟩
  have ik:=dC.le
  have fT:U X bM j=zw [.Z 0, .str [], .Z 0, .int .u64 0, .zF, .zF, .Z 0] 7:=by rw[dC.aa _ Zo];exact cH
  have EH:=qC.trans dC
  generalize be:(lU w).getD dU=t
  have AM:eD t=[.bool t.b, .bool t.s, .Z t.w]:=rfl
  rw[AM]
  refine ih ⟨?_⟩
  refine ih ⟨?_⟩
  refine ih ⟨?_⟩
  refine ih ⟨?_⟩
  refine ih ⟨?_⟩
  generalize f9:bj X _ bX _=bZ
  have dZ:U X bZ bX=zw [.bool t.b, .bool t.s, .Z t.w] 3:=by rw[<-f9,a7 Zo];rfl
  have d8:U X bZ j=zw [.Z 0, .str [], .Z 0, .int .u64 0, .zF, .zF, .Z 0] 7:=by rw[<-f9];simp(disch:=omega) only[aB];exact fT
  have el:ba X h j bZ (bX+1):=EH.trans (by rw[<-f9];exact dz)
  clear f9 fT cH bI
  have uG:∀h,c5 X h .add 9 false (.str d) (.str w)=some (.str (d++w)):=λh=>by
   have:Nat.ble (d.length+w.length) 1000000000=true:=lC Zo
   simp only[c5,BN,this,fo]
  have XD:∀ah:Prop,ah->gb (.str (d++w)) (some (.str (d++w))) ah:=λah a=>f4 (by simp[D.same,qS]) a
  have M0:∀ah:Prop,ah->gb (.agg [.bool t.b, .bool t.s, .Z t.w]) (some (.agg [.bool t.b, .bool t.s, .Z t.w])) ah:=λah a=>f4 (by simp[D.same,lO,oI]) a
  have e9:cf ⟨5,d++w,0,(k6 d).1,t⟩=[.Z 5, .str (d++w), .Z 0, .int .u64 (k6 d).1, .bool t.b, .bool t.s, .Z t.w]:=rfl
  cases tS:lU w with
  |none=>
   rw[tS]at jn
   simp only[]at jn
   subst jn
   simp only[Z2]
   refine cI @uG (bc dZ) ⟨?_⟩
   refine XD _ ?_
   refine cI @uG (bc dZ) ⟨?_⟩
   refine M0 _ ?_
   refine cx ⟨?_⟩
   refine⟨⟨⟨5,d++w,0,(k6 d).1,t⟩, ?_,λx a=>by cases a⟩,ba.set el Zo aE Zo⟩
   rw[e9]
  |some hp=>
   have P0:hp=t:=by rw[tS]at be;exact be
   subst P0
   have avI:=XR tS
   rw[tS]at jn
   simp only[]at jn
   cases kp:hp.b with
   |true=>
    rw[kp]at jn dZ e9 M0
    simp only[Yq,Bool.false_and,Zy,ZD]at jn
    subst jn
    simp only[Z2,Z7]
    refine cI @uG (bc dZ) ⟨?_⟩
    refine XD _ ?_
    refine cI @uG (bc dZ) ⟨?_⟩
    refine M0 _ ?_
    refine cx ⟨?_⟩
    refine⟨⟨⟨5,d++w,0,(k6 d).1,hp⟩, ?_,λx a=>by cases a⟩,ba.set el Zo aE Zo⟩
    rw[e9]
   |false=>
    rw[kp]at jn dZ e9 M0
    simp only[Yr,zi]at jn
    simp only[Z7]
    refine cI @uG (bc dZ) ⟨?_⟩
    have ax:=av3 (j:=bX+1+19) (h:=bZ) au.todj hp avI ((k6 d).1:Int) Zo
    have awU:eD hp=[.zF, .bool hp.s, .Z hp.w]:=by unfold eD;rw[kp]
    rw[awU]at ax
    refine ax.Zm ?_
    rintro ac ci dV ⟨rfl,ez⟩
    have nj:=ez.le
    have fH:U X ci bX=zw [.zF, .bool hp.s, .Z hp.w] 3:=by rw[ez.aa _ Zo];exact dZ
    have lH:U X ci j=zw [.Z 0, .str [], .Z 0, .int .u64 0, .zF, .zF, .Z 0] 7:=by rw[ez.aa _ Zo];exact d8
    have OP:ba X h j ci dV:=⟨zs el.le,λe B=>by rw[ez.aa e (zs el.le)];exact el.aa e B⟩
    have aui:N.isSome=wz hp ((k6 d).1:Int):=by
     rw[<-jn];cases wz hp ((k6 d).1:Int)<;>rfl
    rw[aui]
    refine cd @uG ⟨?_⟩
    refine XD _ ?_
    refine cd (bc fH) ⟨?_⟩
    refine M0 _ ?_
    refine cx ⟨?_⟩
    refine⟨⟨⟨5,d++w,0,(k6 d).1,hp⟩, ?_,λx a=> ?_⟩,ba.set OP Zo aE Zo⟩
    ·rw[e9]
    ·rw[<-jn]at a
     split at a
     ·cases a;rfl
     ·cases a
 ·rw[Zr (.inl aX)]at jn
  subst jn
  refine cd @aik ⟨?_⟩
  exact⟨⟨hq,rfl,λx a=>by cases a⟩,ba.set qC Zo aE Zo⟩
end
end
end Go.Proofs.YtpeabpmnlmaabaaGreatDoor

