/- Part of the proof of the last text; no conditions -/
import Derived.Test.YtpeabpmnlmaabaaGreatDoorYi
set_option maxHeartbeats 8000000
set_option linter.all false
namespace Go.Proofs.YtpeabpmnlmaabaaGreatDoor
open Go.ba Go.aQ
noncomputable section
def Cz:List f8->Option Int
 |[]=>none
 |aj::k=>if 200<hd 201 aj.right then some aj.at_ else Cz k
def sv:List Go.aQ.Node->Option (Int×Int)
 |[]=>none
 |g::k=>if 256<g.d3.length+g.out.length+g.loc.length\/4096<g.eqs.length then some (30,g.at_)else match Cz g.eqs with
  |some F=>some (22,F)
  |none=>sv k
def qK(an:List Go.aQ.Node):Option (Int×Int):=match an[64]? with
 |some g=>some (30,g.at_)
 |none=>sv an
section
variable{X:ch}{h S' aK aJ:R af}{j am aM aR aG bQ:Nat}{aU:List Tok}{i:Nat}
def atY(au:di X){P:Nat->Prop}{E:bB}{v:D}(aF:(o X).a6<=j)(bz:cE X h P E v)(bq:∀e,P e->e<j):
 aW X 46 [v] h j (λac S' am=>ac= .Z (hd 201 E:Nat)/\bf X h j S' am) (λ_ _ _=>False):=by
 refine zx au (al7 X) ?_
 rw[al8]
 unfold aat
 exact(atZ au 201 Zo h j P E v aF bz bq)
def axU(au:di X){P:Nat->Prop}{an:List Go.aQ.Node}{v:D}(aF:(o X).a6<=j)(bP:oO X h P an v)(bq:∀e,P e->e<j):
 aW X 25 [v] h j (λac S' am=>qK an=none/\ac= .tuple []/\bf X h j S' am) (λac S' am=>∃y F,qK an=some (y,F)/\ac=pG y F/\bf X h j S' am):=by
 refine zx au (alz X) ?_
 rw[alA]
 unfold aab
 obtain⟨b,aS,cO,bL,rfl,od,a0,cC,vT⟩:=bP
 have xw:=vT.wide
 have d2:=cC.len
 have ik:=cC.many
 rw[xw.1]at d2 ik
 by_cases He:64<an.length
 ·obtain⟨g,aeQ⟩:∃g,an[64]? =some g:=⟨_,Ze He⟩
  obtain⟨row,fb,jH⟩:=vT.get 64 g aeQ
  have dw:=cC.fI 64 Zo
  obtain⟨c5,dt,W5,eM,bZ,cu,c0,fE,aiq,rfl,_⟩:=jH
  have ax:=cC.cell 64 _ 1 _ fb rfl
  have d:decide ((64:Int)<(an.length:Int))=true:=by simp;omega
  have aun:gt 6 aS (.Z 64)=some (.ptr cO (64*6)):=dw
  refine gb @a0 @d2 @d @aun @ax ⟨?_⟩
  refine⟨⟨30,g.at_,by simp[qK,aeQ],rfl,bf.refl _ _⟩⟩
 ·have az:qK an=sv an:=by simp[qK,Z2 (by omega:an.length<=64)]
  have d:decide ((64:Int)<(an.length:Int))=false:=by simp;omega
  rw[az]
  refine ed @a0 @d2 @d ⟨?_⟩
  refine fp (λm H S' aP=>∃(T:Nat),H.g 24=some aS/\H.g 25=some (.Z (an.length:Int))/\H.g 26=some (.Z (T:Int))/\T+m=an.length/\bf X h j S' aP/\sv an=sv (an.drop T))
   an.length ⟨0,be,be,fO,Zo,bf.refl _ _,rfl⟩ ?_
  rintro m H aJ aR ⟨T,u6,mZ,lI,bJ,bC,Em⟩
  have fC:=bC.le
  have cG:=zv T
  cases m with
  |zero=>
   have cH:=zr T an.length
   rw[ZD Zo]at Em
   refine ed @lI @mZ @cH ⟨?_⟩
   exact⟨Em,rfl,bC⟩
  |succ m=>
   have cH:=zs T an.length
   obtain⟨g,nI⟩:=zt an T
   have aE:an.drop T=g::an.drop (T+1):=by
    obtain⟨ae,B⟩:=Zb.1 nI
    rw[Zr ae,B]
   rw[aE]at Em
   obtain⟨row,fb,jH⟩:=vT.get T g nI
   have dw:=cC.fI T Zo
   have hs:=(cC.aa λe B=>bC.aa e (bq e B)).row Zd fb
   have auV:=jH.aa (bg:=P) (λe B=>bC.aa e (bq e B)) (λ_ a=>a)
   have xC:=jH.ju
   obtain⟨c5,dt,W5,eM,bZ,cu,c0,fE,aiq,rfl,cN,cB,ea,fQ,mU⟩:=auV
   have c7:=cN.len;have cr:=cB.len;have dZ:=ea.len;have f6:=fQ.len
   have fk:=cN.many;have gl:=cB.many;have mO:=ea.many;have Wc:=fQ.many
   have ajc:=mU.wide
   rw[Zi]at c7 cr dZ fk gl mO
   rw[ajc.1]at f6 Wc
   have fV:bl .add (.Z (g.d3.length:Int)) (.Z (g.out.length:Int))=some (.Z ((g.d3.length+g.out.length:Nat):Int)):=by rw[eH Zo Zo];rfl
   have ke:bl .add (.Z ((g.d3.length+g.out.length:Nat):Int)) (.Z (g.loc.length:Int))=some (.Z ((g.d3.length+g.out.length+g.loc.length:Nat):Int)):=by rw[eH Zo Zo];rfl
   refine ih @lI @mZ @u6 @cH @dw @hs ⟨?_⟩
   refine f7 (iJ (y:=6) (b:=aR) (V:=0) (n:=6) (c:=R.ofList [.str [], .Z 0, .aT, .aT, .aT, .aT] 0 .nil) (bb Zo) Zo rfl Zd Zd xC) ?_
   generalize e0:bi X _ aR _=a1
   have xe:U X a1 aR=some (.cells (dT (R.ofList [.str [], .Z 0, .aT, .aT, .aT, .aT] 0 .nil) 0 [.str g.name, .Z g.at_,c5,dt,W5,eM]) 6 .own):=by rw[<-e0];exact bb Zo
   have ck:bf X h j a1 (aR+1):=bC.trans (by rw[<-e0];exact dA)
   have cS:∀e,P e->U X a1 e=U X h e:=λe B=>ck.aa e (bq e B)
   clear e0
   have cX:aI X a1 (.ptr aR 1)=some (.Z g.at_):=by rw[bp xe];rfl
   have dI:aI X a1 (.ptr aR 2)=some c5:=by rw[bp xe];rfl
   have gZ:aI X a1 (.ptr aR 3)=some dt:=by rw[bp xe];rfl
   have oa:aI X a1 (.ptr aR 4)=some W5:=by rw[bp xe];rfl
   have ku:aI X a1 (.ptr aR 5)=some eM:=by rw[bp xe];rfl
   by_cases asE:256<g.d3.length+g.out.length+g.loc.length
   ·have eY:decide ((256:Int)<((g.d3.length+g.out.length+g.loc.length:Nat):Int))=true:=by simp;omega
    refine et @cX @dI @gZ @oa @ku @c7 (Za @cr (Za @dZ (Za @f6 (Za @fV (Za @ke @eY))))) ⟨?_⟩
    exact⟨⟨30,g.at_,by rw[Em,sv,Zp (.inl asE)],rfl,ck⟩⟩
   have eY:decide ((256:Int)<((g.d3.length+g.out.length+g.loc.length:Nat):Int))=false:=by simp;omega
   by_cases asF:4096<g.eqs.length
   ·have ja:decide ((4096:Int)<(g.eqs.length:Int))=true:=by simp;omega
    refine et @cX @dI @gZ @oa @ku @c7 (Za @cr (Za @dZ (Za @f6 (Za @fV (Za @ke (Za @eY @ja)))))) ⟨?_⟩
    exact⟨⟨30,g.at_,by rw[Em,sv,Zp (.inr asF)],rfl,ck⟩⟩
   have ja:decide ((4096:Int)<(g.eqs.length:Int))=false:=by simp;omega
   refine et @cX @dI @gZ @oa @ku @c7 (Za @cr (Za @dZ (Za @f6 (Za @fV (Za @ke (Za @eY (Za @ja (Za @u6 (Za @mZ @lI))))))))) ⟨?_⟩
   have ag:sv an=(match Cz g.eqs with|some F=>some (22,F)|none=>sv (an.drop (T+1))):=by rw[Em,sv,Zh Zo]
   have Pu:=fQ.aa (S':=h) (λe B=>(bC.aa e (bq e B)).symm)
   have aAg:=mU.aa (S':=h) (bg:=P) (λe B=>(bC.aa e (bq e B)).symm) (λ_ a=>a)
   refine fp (λmO H S' aP=>∃(i:Nat),H.g 24=some aS/\H.g 25=some (.Z (an.length:Int))/\H.g 26=some (.Z (T:Int))/\H.g 53=some eM/\H.g 54=some (.Z (g.eqs.length:Int))/\H.g 55=some (.Z (i:Int))/\i+mO=g.eqs.length/\bf X h j S' aP/\Cz g.eqs=Cz (g.eqs.drop i))
    g.eqs.length ⟨0,aZ u6,aZ mZ,aZ lI,be,be,fO,Zo,ck,rfl⟩ ?_
   clear u6 mZ lI cX dI gZ oa ku xe cS ck
   rintro mO H a1 bn ⟨i,u6,mZ,lI,qU,kG,qV,aN,ck,El⟩
   have jf:=ck.le
   cases mO with
   |zero=>
    have gs:=zr i g.eqs.length
    rw[ZD Zo]at El
    refine gb @qV @kG @gs @lI @cG ⟨?_⟩
    refine⟨m,Zo,T+1,aZ u6,aZ mZ,be,Zo,ck, ?_⟩
    rw[ag,El];rfl
   |succ mO=>
    have gs:=zs i g.eqs.length
    have qp:=zv i
    obtain⟨aj,xE⟩:=zt g.eqs i
    have atO:g.eqs.drop i=aj::g.eqs.drop (i+1):=by
     obtain⟨ae,B⟩:=Zb.1 xE
     rw[Zr ae,B]
    rw[atO,Cz]at El
    obtain⟨row,fb,tD⟩:=aAg.get i aj xE
    have auo:=fQ.fI i (by rw[ajc.1];omega)
    have Li:=(Pu.aa λe B=>ck.aa e (bq e B)).row Zd fb
    obtain⟨m7,JA,lR,pB,kF,rfl,_,_,avy,ml⟩:=tD
    refine ih @qV @kG @qU @gs @auo @Li ⟨?_⟩
    refine f7 (iJ (y:=4) (b:=bn) (V:=0) (n:=4) (c:=R.ofList [.aT, .aT, .Z 0, .cF] 0 .nil) (bb Zo) Zo rfl Zd Zd ml) ?_
    generalize e1:bi X _ bn _=bA
    have sd:U X bA bn=some (.cells (dT (R.ofList [.aT, .aT, .Z 0, .cF] 0 .nil) 0 [m7,JA, .Z aj.at_,kF]) 4 .own):=by rw[<-e1];exact bb Zo
    have cW:bf X a1 bn bA (bn+1):=by rw[<-e1];exact dA
    have Hf:=ck.trans cW
    clear e1
    have gZ:aI X bA (.ptr bn 3)=some kF:=by rw[bp sd];rfl
    refine ce @gZ ⟨?_⟩
    refine(atY au Zo (avy.aa λe B=>Hf.aa e (bq e B)) (λe B=>zq (bq e B))).Zm ?_
    rintro va bN cf ⟨rfl,dR⟩
    have iH:=dR.le
    have dI:aI X bN (.ptr bn 2)=some (.Z aj.at_):=by rw[bp (by rw[dR.aa _ Zo];exact sd)];rfl
    by_cases gU:200<hd 201 aj.right
    ·have hF:decide ((200:Int)<((hd 201 aj.right:Nat):Int))=true:=by simp;omega
     rw[Zp gU]at El
     refine cL @hF @dI ⟨?_⟩
     exact⟨⟨22,aj.at_,by rw[ag,El],rfl,Hf.trans dR⟩⟩
    ·have hF:decide ((200:Int)<((hd 201 aj.right:Nat):Int))=false:=by simp;omega
     rw[Zh gU]at El
     refine ed @hF @qV @qp ⟨?_⟩
     exact⟨mO,Zo,i+1,aZ u6,aZ mZ,aZ lI,aZ qU,aZ kG,be,Zo,Hf.trans dR,El⟩
end
end
open Go.ba
noncomputable section
variable (X : ch) (h : R af) (j : Nat) (ah av : bI) (a0 a7 b6 a3 a4 a5 hE ib iz : D)
def ψ(a:aL)(b:D)(c:R af)(d:Nat)(e f:bI):Prop:=
 A8 d a c λc d g=>ar (gC b) λh=>ar (bl .gtr h (.Z 65536)) λh=>bk (λb c d=>e3 b λg=>ar (By a c g) λg=>ar (fv [.str [], .Z 0] [(0,1,g)]) λg=>hn a c d g λc d g=>aW a 38 [c] d g (λ_ d g=>bk (λb c d=>fm b 5 4 λf g=>g9 g 1 a c λ_ g=>Rn 7 2 g λg=>Ro g d a c f λc d f=>De λg=>k0 b 3 a d 2 g λa b=>e (.tuple [c,b]) a f) λh=>fg (λb c d g=>Dd g 10 c 4 1 a d 0 λg i j=>ar (np j) λj=>ar (bl .lss i j) λi=>bk (λc d g=>bk (λc d e=>A6 c 4 a 38 d e f λ_ a d=>b c a d) λb=>n5 c λh=>Dd g 10 c 4 0 a d 1 λg i j=>ar (ov i j) λi=>bk (λc d g=>cz (c 6) λh=>iS a h [] d g (λd f g=>ul d g a f λd f g h=>ar (gi .not d) λi=>bk (λc d e=>lO c 4 1 a d λ_ _ f=>cz (c 8) λg=>sV 2 g a d f λd=>eW (e+11) λe=>lO c 4 1 a d λf _ g=>iy c 8 1 a d λ_ h=>ar (np h) λh=>ar (bl .add g h) λg=>rS f 1 a d g λd=>fm c 5 8 λf g=>ar (cZ a d 7 g) λg=>Ro g e a d f λa d e=>b (Z c 5 a) d e) λb=>aV i (eW (g+7) λb=>lO c 4 1 a h λ_ _ d=>I3 20 d λd=>k0 c 3 a h 2 d λa c=>e (.tuple [.aT,c]) a b) (b (zz c 8 f 9 d 59 i) h g)) f) λb=>aW a 40 [i] d g (λd e g=>bk b λb=>aV d (n5 c λa=>b (zA c 6 (.func (.func 39) [h] []) 7 i 43 d 6 (.func (.func 41) [a] [])) e g) (aW a 42 [i] e g (λa e f=>bk b λb=>aV a (n5 c λg=>b (Z (zA c 6 (.func (.func 39) [h] []) 7 i 43 d 48 a) 6 (.func (.func 43) [g] [])) e f) (b (zA c 6 (.func (.func 39) [h] []) 7 i 43 d 48 a) e f)) f)) f) λa=>aV i (a (Z c 29 i) d g) (h (Z c 29 i) d g)) (zy b 4 c 5 .aT) d g) f) λf=>aV h (ar (fv [.Z 0, .Z 0] [(0,1, .Z 3)]) λb=>uk a d 2 c b λa b=>e (.tuple [.aT,b]) a g) (f (zz (cP [b]) 2 .aT 3 c 12 h) d g)
def alw:cY X 22 [a0] h j ah av=ψ X a0 h j ah av:=Zk
def alv:cQ X 22 1=true:=Zk
def aal(a:aL)(b:D)(c:R af)(d:Nat)(e f:bI):Prop:=
 bk (λ_ a b=>e (.tuple []) a b) λg=>fg (λb c d h=>Dd h 10 c 0 1 a d 0 λh i j=>ar (np j) λj=>ar (bl .lss i j) λi=>bk (λc d g=>bk b λb=>bk b λb=>Dd g 12 c 0 0 a d 1 λg h i=>ar (ov h i) λh=>aW a 60 [.str [32,9,10,13],h] d g (λd g h=>Dg d λd=>bk b λb=>aV d (M2 c a g λa=>b (Z c 12 d) a h) (Dd h 11 c 0 0 a g 1 λh i j=>ar (nu i (some j) none) λi=>aW a 61 [i, .str [45,45]] g h (λg h i=>bk b λb=>aV g (eW (i+15) λe=>lO c 0 1 a h λi j k=>fm c 0 0 λl m=>g9 m 1 a h λ_ m=>aW a 62 [l,m, .func (.func 63) [] []] h e (λe f h=>ar (np e) λe=>ar (bl .add k e) λe=>lm i 1 λi=>ar (aI a f j) λj=>gn j (some k) (oK a f i e λa=>b (zy c 12 d 31 g) a h)) f) (e (.tuple []) h i)) f)) f) λa=>aV i (a (Z c 11 i) d h) (g (Z c 11 i) d h)) (cP [b]) c d
def alS:cY X 38 [a0] h j ah av=aal X a0 h j ah av:=Zk
def alR:cQ X 38 1=true:=Zk
def aam(a:aL)(b:D)(c:R af)(d:Nat)(e f:bI):Prop:=
 yg d a c λc d g=>ar (cZ a d 17 (.ptr 0 0)) λh=>bk (λb c d=>Rp λf=>k0 b 2 a c 7 f λa b=>e (.tuple [b, .zF]) a d) λi=>fg (λb c d g=>I5 c 7 17 λh=>bk (λc d g=>bk (λa c d=>gJ a 7 λe=>b (Z a 7 e) c d) λb=>fm c 6 7 λh i=>ar (uY false 17 1 h i) λh=>Dd g 11 c 0 0 a d 1 λg i j=>ar (nu i (some j) none) λi=>aW a 61 [i,h] d g (λd f g=>bk b λb=>aV d (Rn 6 1 h λb=>k0 c 2 a f 7 b λa b=>e (.tuple [b, .zT]) a g) (b (zy c 5 h 20 d) f g)) f) λa=>aV h (a (Z c 8 h) d g) (i (Z c 8 h) d g)) (zA (cP [b]) 2 c 3 .zF 6 h 7 (.Z 0)) d g
def alU:cY X 39 [a0] h j ah av=aam X a0 h j ah av:=Zk
def alT:cQ X 39 1=true:=Zk
def aan(_:aL)(a:D)(b:R af)(c:Nat)(d _:bI):Prop:=
 ar (bl .geq a (.int .u8 48)) λe=>j5 e a b c λa b c=>eB e (bl .leq a (.int .u8 57)) b c λa b c=>c4 (λa=>d a b c) λb=>aV e (b a) (b .zF)
def alW:cY X 40 [a0] h j ah av=aan X a0 h j ah av:=Zk
def alV:cQ X 40 1=true:=Zk
def aao(a:aL)(b:D)(c:R af)(d:Nat)(e f:bI):Prop:=
 yg d a c λc d g=>g9 b 1 a d λ_ h=>aW a 62 [b,h, .func (.func 40) [] []] d g (λd g h=>aW a 64 [d, .Z 10, .Z 64] g h (λg h i=>hl g λg j=>ar (dc a h .neq 139 true j .nilIface) λk=>hB k d h i λh i l=>e7 k (np h) i l λh i l=>e7 k (bl .gtr h (.Z 20)) i l λh i l=>c4 (λh=>bk (λb c d=>fm b 0 0 λg h=>g9 h 1 a c λ_ h=>n5 b λi=>ar (np i) λi=>ar (bl .add h i) λh=>aW a 62 [g,h, .func (.func 65) [] []] c d (λc d g=>Gb a d c λh=>bk (λb c d=>A6 b 7 a 66 c d f λc d g=>hl c λc h=>I6 g λi=>pq a d g i.1 i.2 3 c λc d g=>eW (d+19) λd=>fm b 4 7 λi j=>ar (dc a g .add 9 false i j) λk=>ps b λl=>kI a g c λm=>ar (fv [.Z 0, .str [], .Z 0, .int .u64 0, .zF, .zF, .Z 0] [(0,1, .Z 5),(1,1,k),(3,1,l),(4,3,m)]) λl=>I7 h 0 c g a λg n=>ji h (gi .not g) n λg n=>c4 (λg=>ji g (cZ a n 3 c) n λh n=>Az g (b 5) n λn o=>lC g (λb=>aW a 67 [h,n] o d b f) o d λd f h=>c4 (λd=>ar (dc a f .add 9 false i j) λg=>gn g (some k) (kI a f c λc=>gn c (some m) (k0 b 2 a f 7 l λa b=>e (.tuple [b,d]) a h))) λa=>aV g (a d) (a .zF)) λa=>aV h (a g) (a .zF)) λf=>aV h (fm b 4 5 λc f=>ar (fv [.Z 0, .str [], .Z 0, .int .u64 0, .zF, .zF, .Z 0] [(0,1, .Z 4),(1,1,c),(3,1,f)]) λc=>k0 b 2 a d 7 c λa b=>e (.tuple [b, .zT]) a g) (f (zy b 7 c 39 h) d g)) f) λf=>aV h (Rp λb=>uk a i 7 c b λa b=>e (.tuple [b, .zF]) a l) (f (zy (zA (cP [b]) 2 c 3 .zF 4 d 5 g) 6 j 27 h) i l)) λa=>aV k (a .zT) (a h)) f) f
def alY:cY X 41 [a0] h j ah av=aao X a0 h j ah av:=Zk
def alX:cQ X 41 1=true:=Zk
def aap(_:aL)(a:D)(b:R af)(c:Nat)(d _:bI):Prop:=
 ar (bl .geq a (.int .u8 97)) λe=>j5 e a b c λb c f=>eB e (bl .leq b (.int .u8 122)) c f λb c f=>c4 (λb=>hB b a c f λc e f=>e7 b (bl .geq c (.int .u8 65)) e f λc e f=>hB b c e f λc e f=>j5 c a e f λe f g=>eB c (bl .leq e (.int .u8 90)) f g λe f g=>kQ b (λa=>c4 (λb=>a b f g) λa=>aV c (a e) (a .zF)) f g λc e f=>c4 (λb=>hB b a e f λa c e=>e7 b (bl .eql a (.int .u8 95)) c e λa c e=>c4 (λa=>d a c e) λc=>aV b (c .zT) (c a)) λa=>aV b (a .zT) (a c)) λa=>aV e (a b) (a .zF)
def al0:cY X 42 [a0] h j ah av=aap X a0 h j ah av:=Zk
def alZ:cQ X 42 1=true:=Zk
def aaq(a:aL)(b:D)(c:R af)(d:Nat)(e f:bI):Prop:=
 yg d a c λc d g=>g9 b 1 a d λ_ h=>aW a 62 [b,h, .func (.func 65) [] []] d g (λd g h=>Rn 1 1 d λi=>wH h a g i λg h i=>aW a 66 [d] i h (λh i j=>hl h λh k=>I6 j λl=>pq a i j l.1 l.2 3 h λh i j=>bk (λb c d=>m1 b 5 a c 7 λf=>n5 b λg=>ar (np g) λg=>ar (bl .leq g (.Z 32)) λg=>k0 b 2 a c 7 f λa b=>e (.tuple [b,g]) a d) λe=>aV k (eW (i+5) λf=>kI a j h λi=>ar (hk 0 g) λl=>q1 a j l 3 λj=>ar (hk 4 g) λl=>kI a j h λm=>gn m (some i) (ar (gg a j 3 l i) λa=>e (zz (zA (cP [b]) 2 c 3 .zF 4 d 5 g) 6 h 7 k 21 k) a f)) (aW a 68 [d] j i (λf i j=>bk e λe=>aV f (ar (hk 0 g) λl=>q1 a i l 2 λa=>e (zA (zA (cP [b]) 2 c 3 .zF 4 d 5 g) 6 h 7 k 21 k 26 f) a j) (e (zA (zA (cP [b]) 2 c 3 .zF 4 d 5 g) 6 h 7 k 21 k 26 f) i j)) f)) f) f
def al2:cY X 43 [a0] h j ah av=aaq X a0 h j ah av:=Zk
def al1:cQ X 43 1=true:=Zk
def aaK(a:aL)(b c:D)(d:R af)(e:Nat)(f g:bI):Prop:=
 aW a 85 [b,c] d e f g
def amA:cY X 60 [a0,a7] h j ah av=aaK X a0 a7 h j ah av:=Zk
def amz:cQ X 60 2=true:=Zk
def aaL(a:aL)(b c:D)(d:R af)(e:Nat)(f g:bI):Prop:=
 aW a 86 [b,c] d e f g
def amC:cY X 61 [a0,a7] h j ah av=aaL X a0 a7 h j ah av:=Zk
def amB:cQ X 61 2=true:=Zk
def aaM(a:aL)(b c d:D)(e:R af)(f:Nat)(g h:bI):Prop:=
 bk (λb c d=>rT b a c λa=>fm b 1 7 λb e=>ar (nu a (some b) (some e)) λa=>g a c d) λg=>fg (λb c d e=>fm c 7 0 λf i=>g9 i 0 a d λ_ i=>ar (np i) λi=>ar (bl .lss f i) λf=>ow f (c 2) d e λd e i=>ow f (c 0) e i λe i j=>A7 f e i j 0 a λe i j=>ow f (c 7) i j λi j k=>eB f (ov e i) j k λe i j=>lC f (λb=>iS a d [e] i j b h) i j λa d e=>c4 (λa=>bk (λa c d=>bk b λb=>gJ a 7 λe=>b (Z a 7 e) c d) λb=>aV a (b (Z c 25 a) d e) (g (Z c 25 a) d e)) λb=>aV f (b a) (b .zF)) (zy (cP [b,c,d]) 6 (.str []) 7 c) e f
def amE:cY X 62 [a0,a7,b6] h j ah av=aaM X a0 a7 b6 h j ah av:=Zk
def amD:cQ X 62 3=true:=Zk
def aaN(_:aL)(a:D)(b:R af)(c:Nat)(d _:bI):Prop:=
 ar (bl .neq a (.int .u8 10)) λa=>d a b c
def amG:cY X 63 [a0] h j ah av=aaN X a0 h j ah av:=Zk
def amF:cQ X 63 1=true:=Zk
def aaO(a:aL)(b c d:D)(e:R af)(f:Nat)(g h:bI):Prop:=
 aW a 87 [b,c,d] e f (λe f i=>hl e λe j=>ar (dc a f .neq 139 true j .nilIface) λk=>bk (λa b c=>cz (a 8) λa=>g (.tuple [a, .nilIface]) b c) λl=>aV k (aW a 88 [.str [80,97,114,115,101,85,105,110,116],b,c,d,j] f i (λa b c=>g (.tuple [e,a]) b c) h) (l (Z (zA (cP [b,c,d]) 6 (.int .u64 0) 7 .nilIface 8 e 9 j) 18 k) f i)) h
def amI:cY X 64 [a0,a7,b6] h j ah av=aaO X a0 a7 b6 h j ah av:=Zk
def amH:cQ X 64 3=true:=Zk
def aaP(a:aL)(b:D)(c:R af)(d:Nat)(e f:bI):Prop:=
 aW a 42 [b] c d (λc d g=>hB c b d g λb d g=>kQ c (λc=>aW a 40 [b] d g c f) d g λa b d=>c4 (λa=>e a b d) λb=>aV c (b .zT) (b a)) f
def amK:cY X 65 [a0] h j ah av=aaP X a0 h j ah av:=Zk
def amJ:cQ X 65 1=true:=Zk
def aaQ(a:aL)(b:D)(c:R af)(d:Nat)(e f:bI):Prop:=
 I6 d λg=>gu a c d g.1 g.2 λc d g=>ar (dc a d .eql 9 true b (.str [98,111,111,108])) λh=>bk (λb c d=>e3 b λg=>Gb a c g λg=>xK g (b 0) c d λc d h=>e7 g (ov c (.Z 0)) d h λc d h=>e7 g (bl .neq c (.int .u8 117)) d h λc d h=>hB g c d h λc d h=>ow c (b 0) d h λd h i=>eB c (ov d (.Z 0)) h i λd h i=>eB c (bl .neq d (.int .u8 105)) h i λd h i=>kQ g (λa=>c4 (λb=>a b h i) λa=>aV c (a d) (a .zF)) h i λc d h=>c4 (λc=>bk (λb c d=>A4 b 1 λg=>aW a 89 [g] c d (λc d g=>hl c λc h=>e3 b λi=>M0 i 105 λi=>ar (fv [.zF, .zF, .Z 0] [(1,1,i),(2,1,c)]) λi=>I6 g λj=>pq a d g j.1 j.2 3 i λd g i=>ar (dc a i .neq 139 true h .nilIface) λj=>e7 j (cZ a i 3 d) i g λg i k=>kQ j (λb=>aW a 90 [g] i k b f) i k λg i k=>e7 j (gi .not g) i k λg i k=>c4 (λg=>e7 g (cZ a i 3 d) i k λi j k=>kQ g (λb=>aW a 91 [i] j k b f) j k λf i j=>xK g (b 0) i j λi j k=>e7 g (dc a j .neq 9 false f i) j k λf i j=>c4 (λf=>bk (λb c d=>m1 b 6 a c 3 λf=>k0 b 2 a c 3 f λa b=>e (.tuple [b, .zT]) a d) λg=>aV f (ar (fv [.zF, .zF, .Z 0] []) λc=>k0 b 2 a i 3 c λa b=>e (.tuple [b, .zF]) a j) (g (zA b 4 c 5 h 6 d 46 f) i j)) λa=>aV g (a .zT) (a f)) λa=>aV j (a .zT) (a g)) f) λf=>aV c (ar (fv [.zF, .zF, .Z 0] []) λc=>k0 b 2 a d 3 c λa b=>e (.tuple [b, .zF]) a h) (f (Z b 21 c) d h)) λa=>aV g (a .zT) (a c)) λf=>aV h (ar (fv [.zF, .zF, .Z 0] [(0,1, .zT),(2,1, .Z 1)]) λb=>uk a d 3 c b λa b=>e (.tuple [b, .zT]) a g) (f (zz (cP [b]) 2 c 3 .zF 8 h) d g)
def amM:cY X 66 [a0] h j ah av=aaQ X a0 h j ah av:=Zk
def amL:cQ X 66 1=true:=Zk
def aaR(a:aL)(b c:D)(d:R af)(e:Nat)(f g:bI):Prop:=
 hn a d e b λd e h=>e9 1 d a e λ_ i=>bk (λb c d=>m1 b 2 a c 3 λe=>sW b λb=>aW a 92 [e,b] c d f g) λg=>aV i (e9 2 d a e λ_ j=>yi j λj=>ar (fv [.zF, .zF, .Z 0] [(2,1,j)]) λj=>ar (gg a e 3 d j) λe=>e9 2 d a e λ_ a=>n4 a 0 g λa g=>aV a (ar (bl .eql c (.int .u64 0)) λa=>f a e h) (g (zA (cP [b,c]) 2 d 4 .zF 6 i 13 a) e h)) (g (zz (cP [b,c]) 2 d 4 .zF 6 i) e h)
def amO:cY X 67 [a0,a7] h j ah av=aaR X a0 a7 h j ah av:=Zk
def amN:cQ X 67 2=true:=Zk
def aaS(a:aL)(b:D)(c:R af)(d:Nat)(e _:bI):Prop:=
 ar (aI a c (.ptr 1 0)) λf=>ar (mN a c 9 .zF f b false) λa=>e a c d
def amQ:cY X 68 [a0] h j ah av=aaS X a0 h j ah av:=Zk
def amP:cQ X 68 1=true:=Zk
def abd(a:aL)(b c:D)(d:R af)(e:Nat)(f g:bI):Prop:=
 aW a 108 [b,c] d e f g
def anl:cY X 85 [a0,a7] h j ah av=abd X a0 a7 h j ah av:=Zk
def ank:cQ X 85 2=true:=Zk
def abe(a:aL)(b c:D)(d:R af)(e:Nat)(f _:bI):Prop:=
 ar (np b) λg=>ar (np c) λh=>ar (bl .geq g h) λg=>j5 g b d e λb d e=>j5 g c d e λd e h=>eB g (np d) e h λd e h=>eB g (nu b none (some d)) e h λb d e=>j5 g c d e λc d e=>eB g (dc a d .eql 9 false b c) d e λa b c=>c4 (λa=>f a b c) λb=>aV g (b a) (b .zF)
def ann:cY X 86 [a0,a7] h j ah av=abe X a0 a7 h j ah av:=Zk
def anm:cQ X 86 2=true:=Zk
def abf(a:aL)(b c d:D)(e:R af)(f:Nat)(g h:bI):Prop:=
 Gb a e b λi=>bk (λb c d=>sU b 1 0 λe=>e3 b λf=>bk (λb c d=>sU b 2 0 λe=>bk (λb c d=>sW b λe=>bk (λb c d=>Rr b 2 λe=>ar (bl .shl (.int .u64 1) e) λe=>ar (bl .sub e (.int .u64 1)) λe=>e3 b λf=>hN (QP a c d f) c d λc d f=>ip c (λb c d=>cz (b 12) λe=>ow e (b 9) c d λc d f=>lC e (λb=>aW a 110 [c] d f b h) d f λa c d=>eB e (gi .not a) c d λa c d=>c4 (λa=>bk (λa b c=>cz (a 13) λa=>g (.tuple [a, .nilIface]) b c) λe=>aV a (pr 2 λa=>g (.tuple [.int .u64 0,a]) c d) (e (Z b 169 a) c d)) λb=>aV e (b a) (b .zF)) λi j=>fg (λb c d e=>hm c 101 100 λf=>bk (λc d e=>vg (λa c d=>gJ a 101 λe=>b (Z a 101 e) c d) c 99 101 a d λb f=>bk (λa c d=>fm a 16 1 λe f=>ar (ob .u8 f) λf=>ar (bl .geq e f) λe=>bk (λa c d=>fm a 13 10 λe f=>ar (bl .geq e f) λe=>bk (λa c d=>fm a 13 1 λe f=>ar (ob .u64 f) λf=>ar (bl .mul e f) λe=>Rr a 16 λf=>ar (bl .add e f) λf=>ar (bl .lss f e) λh=>hB h f c d λc d i=>xK h (a 11) d i λd i j=>e7 h (bl .gtr c d) i j λc d i=>c4 (λc=>bk (λa c d=>cz (a 17) λe=>b (Z a 13 e) c d) λb=>aV c (cz (a 11) λa=>pr 1 λb=>g (.tuple [a,b]) d i) (b (zz a 13 e 17 f 159 c) d i)) λa=>aV h (a .zT) (a c)) λb=>aV e (cz (a 11) λa=>pr 1 λb=>g (.tuple [a,b]) c d) (b (Z a 141 e) c d)) λb=>aV e (pr 2 λa=>g (.tuple [.int .u64 0,a]) c d) (b (Z a 137 e) c d)) λi=>ar (bl .eql f (.int .u8 95)) λj=>ow j (c 8) d e λd e k=>c4 (λd=>bk i λi=>aV d (b (zA c 15 f 16 (.int .u8 0) 106 d 12 .zT) e k) (ar (bl .leq (.int .u8 48) f) λb=>j5 b f e k λe j k=>eB b (bl .leq e (.int .u8 57)) j k λe j k=>c4 (λb=>bk i λe=>aV b (ar (bl .sub f (.int .u8 48)) λa=>e (Z (zA c 15 f 16 (.int .u8 0) 106 d 112 b) 16 a) j k) (aW a 109 [f] j k (λi j k=>ar (bl .leq (.int .u8 97) i) λi=>j5 i f j k λj k l=>lC i (λb=>aW a 109 [j] k l b h) k l λj k l=>eB i (bl .leq j (.int .u8 122)) k l λj k l=>c4 (λi=>bk e λe=>aV i (aW a 109 [f] k l (λa g h=>ar (bl .sub a (.int .u8 97)) λa=>ar (bl .add a (.int .u8 10)) λa=>e (zy (zA c 15 f 16 (.int .u8 0) 106 d 112 b) 121 i 16 a) g h) h) (pr 2 λa=>g (.tuple [.int .u64 0,a]) k l)) λa=>aV i (a j) (a .zF)) h)) λa=>aV b (a e) (a .zF))) λa=>aV j (a d) (a .zF)) λa=>aV f (a (Z c 102 f) d e) (j (Z c 102 f) d e)) (zy (zA b 11 e 12 .zF 13 (.int .u64 0) 99 c) 100 i 101 (.Z 0)) d f) λa=>n4 e 10 a λa f=>aV a (f (zA b 10 (.int .u64 0) 85 e 90 a 10 (.int .u64 1844674407370955162)) c d) (n4 e 16 f λf g=>aV f (g (Z (zA b 10 (.int .u64 0) 85 e 90 a 92 f) 10 (.int .u64 1152921504606846976)) c d) (Rr b 1 λh=>ar (bl .quo (.int .u64 18446744073709551615) h) λh=>ar (bl .add h (.int .u64 1)) λh=>g (Z (zA b 10 (.int .u64 0) 85 e 90 a 92 f) 10 h) c d))) λa=>aV e (a (zy b 77 e 2 (.Z 64)) c d) (I5 b 2 0 λf=>xK f (b 2) c d λc d h=>e7 f (bl .gtr c (.Z 64)) d h λc d h=>c4 (λc=>bk a λa=>aV c (pr 4 λa=>g (.tuple [.int .u64 0,a]) d h) (a (zy b 77 e 83 c) d h)) λa=>aV f (a .zT) (a c))) λi=>sW b λj=>ar (bl .leq (.Z 2) j) λj=>ow j (b 1) c d λc d k=>eB j (bl .leq c (.Z 36)) d k λc d k=>c4 (λc=>bk i λi=>aV c (i (zz b 8 e 9 f 25 c) d k) (sW b λj=>n4 j 0 i λi j=>aV i (e3 b λg=>M0 g 48 λg=>bk j λj=>aV g (bk j λj=>Rl b d k λd k l m=>lC d (λb=>aW a 109 [k] l m b h) l m λk l m=>eB d (bl .eql k (.int .u8 98)) l m λk l m=>c4 (λd=>bk j λj=>aV d (A4 b 2 λa=>j (Z (zA (zA b 8 e 9 f 25 c 32 i) 1 (.Z 10) 37 g 40 d 1 (.Z 2)) 0 a) l m) (Rl b l m λk l m n=>lC k (λb=>aW a 109 [l] m n b h) m n λl m n=>eB k (bl .eql l (.int .u8 111)) m n λl m n=>c4 (λk=>bk j λj=>aV k (A4 b 2 λa=>j (zy (zA (zA b 8 e 9 f 25 c 32 i) 1 (.Z 10) 37 g 40 d 52 k) 1 (.Z 8) 0 a) m n) (Rl b m n λl m n o=>lC l (λb=>aW a 109 [m] n o b h) n o λa h m=>eB l (bl .eql a (.int .u8 120)) h m λa h m=>c4 (λa=>bk j λj=>aV a (A4 b 2 λl=>j (zz (zA (zA b 8 e 9 f 25 c 32 i) 1 (.Z 10) 37 g 40 d 52 k) 64 a 1 (.Z 16) 0 l) h m) (A4 b 1 λl=>j (zz (zA (zA b 8 e 9 f 25 c 32 i) 1 (.Z 10) 37 g 40 d 52 k) 64 a 1 (.Z 8) 0 l) h m)) λb=>aV l (b a) (b .zF))) λa=>aV k (a l) (a .zF))) λa=>aV d (a k) (a .zF)) (j (zy (zA b 8 e 9 f 25 c 32 i) 1 (.Z 10) 37 g) d k)) (pr 3 λa=>g (.tuple [.int .u64 0,a]) d k))) λa=>aV j (a c) (a .zF)) λa=>aV i (pr 2 λa=>g (.tuple [.int .u64 0,a]) e f) (a (zz (cP [b,c,d]) 6 (.int .u64 0) 7 .nilIface 19 i) e f)
def anp:cY X 87 [a0,a7,b6] h j ah av=abf X a0 a7 b6 h j ah av:=Zk
def ano:cQ X 87 3=true:=Zk
def abg(a:aL)(b c d e f:D)(g:R af)(h:Nat)(i j:bI):Prop:=
 bk (λa b c=>n5 a λa=>i a b c) λk=>pr 2 λl=>Dh a g 139 f l k λk l=>aV k (aW a 111 [b,c] g h (λa b c=>ar (some (D.iface 181 a)) λa=>i a b c) j) (pr 1 λm=>Dh a g 139 f m l λl m=>aV l (aW a 112 [b,c] g h (λa b c=>ar (some (D.iface 181 a)) λa=>i a b c) j) (pr 3 λn=>Dh a g 139 f n m λm n=>aV m (aW a 113 [b,c,d] g h (λa b c=>ar (some (D.iface 181 a)) λa=>i a b c) j) (pr 4 λo=>Dh a g 139 f o n λn o=>aV n (aW a 114 [b,c,e] g h (λa b c=>ar (some (D.iface 181 a)) λa=>i a b c) j) (o (zy (zA (cP [b,c,d,e,f]) 10 .nilIface 11 f 12 k 19 l) 26 m 34 n) g h))))
def anr:cY X 88 [a0,a7,b6,a3,a4] h j ah av=abg X a0 a7 b6 a3 a4 h j ah av:=Zk
def anq:cQ X 88 5=true:=Zk
def abh(a:aL)(b:D)(c:R af)(d:Nat)(e f:bI):Prop:=
 aW a 115 [b] c d (λc d g=>hl c λc h=>ar (dc a d .neq 139 true h .nilIface) λi=>bk (λa b c=>n5 a λa=>e (.tuple [a, .nilIface]) b c) λj=>aV i (aW a 88 [.str [65,116,111,105],b, .Z 0, .Z 0,h] d g (λa b d=>e (.tuple [c,a]) b d) f) (j (Z (zA (cP [b]) 2 (.Z 0) 3 .nilIface 4 c 5 h) 12 i) d g)) f
def ant:cY X 89 [a0] h j ah av=abh X a0 h j ah av:=Zk
def ans:cQ X 89 1=true:=Zk
def abk(a:aL)(b:D)(c:R af)(d:Nat)(e f:bI):Prop:=
 hn a c d b λc d g=>bk (λb c d=>iy b 1 2 a c λ_ b=>aW a 116 [b] c d (λb c d=>ar (dc a c .add 9 true (.str [117]) b) λa=>e a c d) f) λh=>rR a d 3 c 90 g f λd g i=>yk d h λd h=>aV d (e (.str []) g i) (jy c a g λj=>bk h λh=>aV j (e (.str [98,111,111,108]) g i) (e9 1 c a g λ_ k=>bk h λh=>aV k (e9 2 c a g λ_ b=>aW a 116 [b] g i (λb c d=>ar (dc a c .add 9 true (.str [105]) b) λa=>e a c d) f) (h (Z (zA (cP [b]) 1 c 2 (.str []) 3 d 7 j) 10 k) g i)))
def anA:cY X 91 [a0] h j ah av=abk X a0 h j ah av:=Zk
def anz:cQ X 91 1=true:=Zk
def abl(a:aL)(b c:D)(d:R af)(e:Nat)(f g:bI):Prop:=
 hn a d e b λb d e=>rR a d 3 b 90 e g λd e h=>j5 d c e h λc e h=>eB d (cZ a e 3 b) e h λb e h=>lC d (λc=>aW a 117 [b] e h c g) e h λa b e=>eB d (bl .andNot c a) b e λa b c=>eB d (bl .eql a (.int .u64 0)) b c λa b c=>c4 (λa=>f a b c) λb=>aV d (b a) (b .zF)
def anC:cY X 92 [a0,a7] h j ah av=abl X a0 a7 h j ah av:=Zk
def anB:cQ X 92 2=true:=Zk
def XS(a:aL)(b c:D)(d:R af)(e:Nat)(f g:bI):Prop:=
 eW (e+7) λh=>ar (aI a d (.ptr 5 0)) λi=>aW a 129 [c] d h (λc d g=>ar (fv [.str [], .str [], .nilIface] [(0,1,b),(1,1,c),(2,1,i)]) λb=>yC a d (e+5) b λb c=>ar (aI a c (.ptr 5 0)) λa=>gn a (some i) (f b c g)) g
def akf:cY X 111 [a0,a7] h j ah av=XS X a0 a7 h j ah av:=Zk
def ake:cQ X 111 2=true:=Zk
def XT(a:aL)(b c:D)(d:R af)(e:Nat)(f g:bI):Prop:=
 eW (e+7) λh=>ar (aI a d (.ptr 6 0)) λi=>aW a 129 [c] d h (λc d g=>ar (fv [.str [], .str [], .nilIface] [(0,1,b),(1,1,c),(2,1,i)]) λb=>yC a d (e+5) b λb c=>ar (aI a c (.ptr 6 0)) λa=>gn a (some i) (f b c g)) g
def akh:cY X 112 [a0,a7] h j ah av=XT X a0 a7 h j ah av:=Zk
def akg:cQ X 112 2=true:=Zk
def XU(a:aL)(b:D)(c:R af)(d:Nat)(e f:bI):Prop:=
 ar (np b) λg=>pX (λc d h=>pX (λc d h=>pX (λc d h=>j5 c g d h λd h i=>eB c (bl .lss d (.Z 10)) h i λd h i=>pX (λc d h=>c4 (λc=>hB c .zT d h λd h i=>j5 d g h i λh i j=>eB d (bl .lss (.Z 0) h) i j λh i j=>j5 d h i j λh i j=>j5 h g i j λi j k=>eB h (bl .lss i (.Z 19)) j k λi j k=>lC d (λa=>c4 (λb=>a b j k) λa=>aV h (a i) (a .zF)) j k λh i j=>kQ c (λa=>c4 (λb=>a b i j) λa=>aV d (a h) (a .zF)) i j λd h i=>c4 (λc=>bk (λb c d=>e3 b λb=>aW a 131 [b, .Z 10, .Z 0] c d (λa b c=>hl a λa d=>e (.tuple [a,d]) b c) f) λd=>aV c (M0 b 45 λd=>hB d b h i λf h i=>e7 d (ov f (.Z 0)) h i λf h i=>e7 d (bl .eql f (.int .u8 43)) h i λf h i=>c4 (λd=>bk (λb c d=>e3 b λf=>hN (QP a c d f) c d λc d f=>ip c (λa b c=>ps a λd=>M0 d 45 λd=>bk (λa b c=>cz (a 6) λa=>e (.tuple [a, .nilIface]) b c) λe=>aV d (cz (a 6) λf=>ar (gi .neg f) λf=>e (zy a 66 d 6 f) b c) (e (Z a 66 d) b c)) λg h=>fg (λb c d f=>hm c 49 48 λg=>bk (λc d f=>vg (λa c d=>gJ a 49 λe=>b (Z a 49 e) c d) c 47 49 a d λa b=>ar (bl .sub b (.int .u8 48)) λg=>ar (bl .gtr g (.int .u8 9)) λh=>bk (λb c d=>cz (b 6) λe=>ar (bl .mul e (.Z 10)) λe=>cz (b 8) λf=>ar (ob .i64 f) λf=>ar (bl .add e f) λe=>a (Z b 6 e) c d) λa=>aV h (pr 2 λa=>e (.tuple [.Z 0,a]) d f) (a (zz c 8 b 8 g 56 h) d f)) λa=>aV g (a (Z c 50 g) d f) (h (Z c 50 g) d f)) (zA b 6 (.Z 0) 47 c 48 g 49 (.Z 0)) d f) λa=>aV d (ar (nu b (some (.Z 1)) none) λf=>ar (np f) λj=>ar (bl .lss j (.Z 1)) λj=>bk a λa=>aV j (pr 2 λa=>e (.tuple [.Z 0,a]) h i) (a (zA (zA (cP [b]) 2 (.Z 0) 3 .nilIface 4 g 30 c) 5 b 39 d 0 f 44 j) h i)) (a (zy (zA (cP [b]) 2 (.Z 0) 3 .nilIface 4 g 30 c) 5 b 39 d) h i)) λa=>aV d (a .zT) (a f)) (d (zA (cP [b]) 2 (.Z 0) 3 .nilIface 4 g 30 c) h i)) λa=>aV c (a .zT) (a d)) λa=>aV .zF (a c) (a .zF)) λa=>iO true .zF (c4 (λb=>a b h i) λa=>aV c (a d) (a .zF)) (a ba.undef h i)) λa=>iO true .zF (a c d h) (a ba.undef d h)) λa=>iO true .zF (ar (bl .lss (.Z 0) c) λb=>a b d h) (a ba.undef d h)) λa=>iO true .zF (a g c d) (a ba.undef c d)
def akj:cY X 115 [a0] h j ah av=XU X a0 h j ah av:=Zk
def aki:cQ X 115 1=true:=Zk
def XW(a:aL)(b:D)(c:R af)(d:Nat)(e _:bI):Prop:=
 hn a c d b λb c d=>e9 2 b a c λ_ a=>ar (bl .sub (.Z 64) a) λa=>ar (bl .shr (.int .u64 18446744073709551615) a) λa=>e a c d
def akn:cY X 117 [a0] h j ah av=XW X a0 h j ah av:=Zk
def akm:cQ X 117 1=true:=Zk
def X9(a:aL)(b c d:D)(e:R af)(f:Nat)(g h:bI):Prop:=
 Gb a e b λi=>bk (λb c d=>e3 b λe=>ar (ov e (.Z 0)) λe=>bk (λb c d=>fm b 0 1 λe f=>cz (b 2) λi=>aW a 87 [e,f,i] c d (λc d e=>hl c λc f=>ar (dc a d .neq 139 true f .nilIface) λh=>j5 h f d e λd e i=>eB h (some (D.iface 178 (.Z 1))) e i λe i j=>eB h (dc a i .neq 139 false d e) i j λa d e=>c4 (λa=>bk (λa b c=>sU a 2 0 λd=>bk (λa b c=>cz (a 2) λd=>yi d λd=>ar (ob .u64 d) λd=>ar (bl .shl (.int .u64 1) d) λd=>cz (a 8) λe=>ar (gi .not e) λe=>ow e (a 9) b c λb c f=>j5 e d c f λc f h=>eB e (bl .geq b c) f h λb c f=>c4 (λb=>bk (λa b c=>cz (a 8) λd=>ow d (a 9) b c λb c e=>ow d (a 10) c e λc e f=>eB d (bl .gtr b c) e f λb c e=>c4 (λb=>bk (λa b c=>cz (a 9) λd=>ar (ob .i64 d) λd=>cz (a 8) λe=>bk (λa b c=>cz (a 11) λa=>g (.tuple [a, .nilIface]) b c) λf=>aV e (ar (gi .neg d) λg=>f (zz a 11 d 69 e 11 g) b c) (f (zy a 11 d 69 e) b c)) λd=>aV b (cz (a 10) λa=>ar (ob .i64 a) λa=>ar (gi .neg a) λa=>pr 1 λb=>g (.tuple [a,b]) c e) (d (Z a 62 b) c e)) λa=>aV d (a b) (a .zF)) λe=>aV b (ar (bl .sub d (.int .u64 1)) λa=>ar (ob .i64 a) λa=>pr 1 λb=>g (.tuple [a,b]) c f) (e (zy a 10 d 52 b) c f)) λa=>aV e (a b) (a .zF)) λe=>aV d (e (zy a 41 d 2 (.Z 64)) b c) (e (Z a 41 d) b c)) λh=>aV a (g (.tuple [.Z 0,f]) d e) (h (zA b 9 (.int .u64 0) 9 c 7 f 38 a) d e)) λb=>aV h (b a) (b .zF)) h) λa=>ar (bl .eql e (.int .u8 43)) λf=>bk a λa=>aV f (A4 b 1 λg=>a (zA b 8 .zF 16 e 17 f 0 g) c d) (ar (bl .eql e (.int .u8 45)) λg=>bk a λa=>aV g (A4 b 1 λh=>a (zy (zA b 8 .zF 16 e 17 f 21 g) 0 h 8 .zT) c d) (a (zA b 8 .zF 16 e 17 f 21 g) c d))) λa=>aV i (pr 2 λa=>g (.tuple [.Z 0,a]) e f) (a (zz (cP [b,c,d]) 6 (.Z 0) 7 .nilIface 13 i) e f)
def akP:cY X 131 [a0,a7,b6] h j ah av=X9 X a0 a7 b6 h j ah av:=Zk
def akO:cQ X 131 3=true:=Zk
def XV(a:aL)(b:D)(c:R af)(d:Nat)(e f:bI):Prop:=
 aW a 132 [b] c d e f
def akl:cY X 116 [a0] h j ah av=XV X a0 h j ah av:=Zk
def akk:cQ X 116 1=true:=Zk
def β(a:aL)(b:D)(c:R af)(d:Nat)(e f:bI):Prop:=
 aW a 139 [b,.Z 10] c d e f
def akR:cY X 132 [a0] h j ah av=β X a0 h j ah av:=Zk
def akQ:cQ X 132 1=true:=Zk
def ι(a:aL)(b c:D)(d:R af)(e:Nat)(f g:bI):Prop:=
 ar (bl .eql c (.Z 10)) λh=>bk (λb c d=>e3 b λe=>ar (ob .u64 e) λe=>fm b 1 0 λb h=>Jc h λh=>aW a 146 [.aT,e,b,h, .zF] c d (λa b c=>hl a λ_ a=>f a b c) g) λi=>aV h (ar (bl .leq (.Z 0) b) λi=>j5 i b d e λd e j=>eB i (bl .lss d (.Z 100)) e j λd e j=>c4 (λd=>bk (λb c d=>ar (hR [.int .u8 0, .int .u8 0, .int .u8 0, .int .u8 0, .int .u8 0, .int .u8 0, .int .u8 0, .int .u8 0, .int .u8 0, .int .u8 0, .int .u8 0, .int .u8 0, .int .u8 0, .int .u8 0, .int .u8 0, .int .u8 0, .int .u8 0, .int .u8 0, .int .u8 0, .int .u8 0, .int .u8 0, .int .u8 0, .int .u8 0, .int .u8 0] d) λe=>gu a c d e.1 e.2 λc d e=>e3 b λh=>ar (ob .u64 h) λh=>e3 b λi=>Jc i λi=>bk (λb c d=>A6 b 6 a 144 c d g λc d e=>ar (bl .add (.Z 1) c) λh=>ps b λi=>ar (W2 24 1 i (some (.Z 1)) (some h) none) λh=>cz (b 6) λi=>aW a 145 [h,i] d e (λ_ d e=>e3 b λg=>Jc g λg=>bk (λb c d=>cz (b 7) λe=>ar (bl .add (.Z 1) e) λe=>ps b λb=>ar (W2 24 1 b (some (.Z 1)) (some e) none) λb=>ar (By a c b) λa=>f a c d) λh=>aV g (ps b λg=>ar (H4 24 1 g (.Z 0)) λg=>ar (gg a d 1 g (.int .u8 45)) λd=>ar (bl .add (.Z 1) c) λc=>ps b λb=>ar (W2 24 1 b none (some c) none) λb=>ar (By a d b) λa=>f a d e) (h (zy b 7 c 34 g) d e)) g) λa=>aV i (ar (gi .neg h) λf=>a (zA b 5 c 6 h 23 i 6 f) d e) (a (zz b 5 c 6 h 23 i) d e)) λi=>aV d (aW a 143 [b] e j f g) (i (zz (cP [b,c]) 4 (.str []) 11 h 17 d) e j)) λa=>aV i (a d) (a .zF)) (i (zy (cP [b,c]) 4 (.str []) 11 h) d e)
def ak5:cY X 139 [a0,a7] h j ah av=ι X a0 a7 h j ah av:=Zk
def ak4:cQ X 139 2=true:=Zk
end
noncomputable section
variable (X : ch) (h : R af) (j : Nat) (ah av : bI) (a0 a7 b6 a3 a4 a5 hE ib iz : D)
def XQ(_:aL)(a:D)(b:R af)(c:Nat)(d _:bI):Prop:=
 ar (bl .or a (.int .u8 32)) λa=>d a b c
def akb:cY X 109 [a0] h j ah av=XQ X a0 h j ah av:=Zk
def aka:cQ X 109 1=true:=Zk
def ξ(_:aL)(a:D)(b:R af)(c:Nat)(d _:bI):Prop:=
 ar (bl .lss a (.Z 10)) λe=>bk (λa b c=>e3 a λe=>ar (bl .mul e (.Z 2)) λe=>e3 a λa=>ar (bl .mul a (.Z 2)) λa=>ar (bl .add a (.Z 2)) λa=>ar (nu (.str [48,48,48,49,48,50,48,51,48,52,48,53,48,54,48,55,48,56,48,57,49,48,49,49,49,50,49,51,49,52,49,53,49,54,49,55,49,56,49,57,50,48,50,49,50,50,50,51,50,52,50,53,50,54,50,55,50,56,50,57,51,48,51,49,51,50,51,51,51,52,51,53,51,54,51,55,51,56,51,57,52,48,52,49,52,50,52,51,52,52,52,53,52,54,52,55,52,56,52,57,53,48,53,49,53,50,53,51,53,52,53,53,53,54,53,55,53,56,53,57,54,48,54,49,54,50,54,51,54,52,54,53,54,54,54,55,54,56,54,57,55,48,55,49,55,50,55,51,55,52,55,53,55,54,55,55,55,56,55,57,56,48,56,49,56,50,56,51,56,52,56,53,56,54,56,55,56,56,56,57,57,48,57,49,57,50,57,51,57,52,57,53,57,54,57,55,57,56,57,57]) (some e) (some a)) λa=>d a b c) λf=>aV e (A5 a λe=>ar (nu (.str [48,49,50,51,52,53,54,55,56,57,97,98,99,100,101,102,103,104,105,106,107,108,109,110,111,112,113,114,115,116,117,118,119,120,121,122]) (some a) (some e)) λa=>d a b c) (f (zy (cP [a]) 2 (.str []) 4 e) b c)
def ald:cY X 143 [a0] h j ah av=ξ X a0 h j ah av:=Zk
def alc:cQ X 143 1=true:=Zk
end
noncomputable section
def jh(c:Nat):Bool:=decide (48<=c)&&decide (c<=57)
def rx(c:Nat):Bool:=decide (97<=c)&&decide (c<=122)||decide (65<=c)&&decide (c<=90)||decide (c=95)
def jr(c:Nat):Bool:=rx c||jh c
def Cp{s:aX}{i c:Nat}(y:IntKind)(a:s[i]? =some c):ov (.str s) (.int y (i:Int))=some (.int .u8 (c:Int)):=by
 simp[ov,sz,a]
def W3{s:aX}{k a:Nat}(y e2:IntKind)(J:k<=a)(Q:a<=s.length):nu (.str s) (some (.int y (k:Int))) (some (.int e2 (a:Int)))=some (.str ((s.drop k).take (a-k))):=by
 simp[nu,my,pZ,sz,fF,J,Q]
def QR{s:aX}{k:Nat}(y:IntKind)(J:k<=s.length):nu (.str s) (some (.int y (k:Int))) none=some (.str (s.drop k)):=by
 simp[nu,my,pZ,sz,fF,J,ZB]
def aBw{s:aX}{a:Nat}(y:IntKind)(J:a<=s.length):nu (.str s) none (some (.int y (a:Int)))=some (.str (s.take a)):=by
 simp[nu,my,pZ,sz,fF,J]
section
variable{X:ch}{h S' aK aJ:R af}{j am aM aR:Nat}
def SG(au:di X)(c:Nat):aW X 40 [.int .u8 (c:Int)] h j (λac S' am=>ac= .bool (jh c)/\S'=h/\am=j) (λ_ _ _=>False):=by
 refine zx au (alV X) ?_
 rw[alW]
 unfold aan
 by_cases a:48<=c
 ·have d:decide ((48:Int)<=(c:Int))=true:=by simp;omega
  have cH:decide ((c:Int)<=57)=decide (c<=57):=by simp;omega
  refine cL @d @cH ⟨?_⟩
  exact⟨by simp[jh,a],rfl,rfl⟩
 ·have d:decide ((48:Int)<=(c:Int))=false:=by simp;omega
  refine ce @d ⟨?_⟩
  exact⟨by simp[jh,a],rfl,rfl⟩
def ab0(au:di X)(c:Nat):aW X 42 [.int .u8 (c:Int)] h j (λac S' am=>ac= .bool (rx c)/\S'=h/\am=j) (λ_ _ _=>False):=by
 refine zx au (alZ X) ?_
 rw[al0]
 unfold aap
 have c1:decide ((97:Int)<=(c:Int))=decide (97<=c):=by simp;omega
 have cH:decide ((c:Int)<=122)=decide (c<=122):=by simp;omega
 have eY:decide ((65:Int)<=(c:Int))=decide (65<=c):=by simp;omega
 have ja:decide ((c:Int)<=90)=decide (c<=90):=by simp;omega
 have gs:decide ((c:Int)=95)=decide (c=95):=by simp;omega
 by_cases J:97<=c<;>by_cases Q:c<=122<;>by_cases ak:65<=c<;>by_cases ay:c<=90<;>try omega
 all_goals
  simp only[J,Q,ak,ay,YB,Yl]at c1 cH eY ja
  refine gb @c1 @cH @eY @ja @gs ⟨?_⟩
  exact⟨by simp[rx,J,Q,ak,ay],rfl,rfl⟩
def ayp(au:di X)(c:Nat):aW X 65 [.int .u8 (c:Int)] h j (λac S' am=>ac= .bool (jr c)/\S'=h/\am=j) (λ_ _ _=>False):=by
 refine zx au (amJ X) ?_
 rw[amK]
 unfold aaP
 refine(ab0 au c).Zm ?_
 rintro ac S' am ⟨rfl,rfl,rfl⟩
 cases ag:rx c with
 |true=>
  refine cI ⟨?_⟩
  exact⟨by simp[jr,ag],rfl,rfl⟩
 |false=>
  refine cI ⟨?_⟩
  refine(SG au c).Zm ?_
  rintro ac S' am ⟨rfl,rfl,rfl⟩
  refine cI ⟨?_⟩
  exact⟨by simp[jr,ag],rfl,rfl⟩
def ayK(au:di X)(c:Nat):aW X 63 [.int .u8 (c:Int)] h j (λac S' am=>ac= .bool (decide (c≠10))/\S'=h/\am=j) (λ_ _ _=>False):=by
 refine zx au (amF X) ?_
 rw[amG]
 unfold aaN
 refine cI ⟨?_⟩
 exact⟨by congr 1;simp;omega,rfl,rfl⟩
def rA(c:Nat):Nat:=(BitVec.ofInt 8 (c:Int)|||BitVec.ofInt 8 32).toNat%256
def V9(au:di X)(c:Nat):aW X 109 [.int .u8 (c:Int)] h j (λac S' am=>ac= .int .u8 (rA c:Int)/\S'=h/\am=j) (λ_ _ _=>False):=by
 refine zx au (aka X) ?_
 rw[akb]
 unfold XQ
 have E:bl .or (.int .u8 (c:Int)) (.int .u8 32)=some (.int .u8 (oJ .u8 ((BitVec.ofInt 8 (c:Int)|||BitVec.ofInt 8 32).toNat))):=by
  simp[bl,l0,mr,lQ,k9];rfl
 refine ce @E ⟨?_⟩
 exact⟨rfl,rfl,rfl⟩
def ah6(au:di X)(s p:aX):aW X 61 [.str s, .str p] h j (λac S' am=>ac= .bool (decide (p.length<=s.length/\s.take p.length=p))/\S'=h/\am=j) (λ_ _ _=>False):=by
 refine zx au (amB X) ?_
 rw[amC]
 unfold aaL
 refine zx au (anm X) ?_
 rw[ann]
 unfold abe
 by_cases a:p.length<=s.length
 ·have d:decide ((p.length:Int)<=(s.length:Int))=true:=by simp;omega
  have E:=aBw (s:=s) .i64 a
  refine cL @d @E ⟨?_⟩
  exact⟨by congr 1;simp[a],rfl,rfl⟩
 ·have d:decide ((p.length:Int)<=(s.length:Int))=false:=by simp;omega
  refine ce @d ⟨?_⟩
  exact⟨by congr 1;simp;omega,rfl,rfl⟩
end
def Ng(X:ch)(f:D)(p:Nat->Bool):Prop:=∃y,f= .func (.func y) [] []/\∀(h:R af) (j c:Nat),aW X y [.int .u8 (c:Int)] h j (λac S' am=>ac= .bool (p c)/\S'=h/\am=j) (λ_ _ _=>False)
def aAN{X:ch}(au:di X):Ng X (.func (.func 40) [] []) jh:=⟨_,rfl,λh j c=>SG au c⟩
def aip{X:ch}(au:di X):Ng X (.func (.func 65) [] []) jr:=⟨_,rfl,λh j c=>ayp au c⟩
def aAP{X:ch}(au:di X):Ng X (.func (.func 63) [] []) (λc=>decide (c≠10)):=⟨_,rfl,λh j c=>ayK au c⟩
structure nB(X:ch)(h:R af)(gv:Nat)(s:aX)(i:Nat):Prop where
 g:U X h gv=zu [.str s, .Z (i:Int)] 2
 le:i<=s.length
 many:s.length<=65536
 b7:(o X).a6<=gv
def nB.dH{X:ch}{h:R af}{gv:Nat}{s:aX}{i:Nat}(a:nB X h gv s i):aI X h (.ptr gv 0)=some (.str s):=by rw[bp a.g];rfl
def nB.cX{X:ch}{h:R af}{gv:Nat}{s:aX}{i:Nat}(a:nB X h gv s i):aI X h (.ptr gv 1)=some (.Z (i:Int)):=by rw[bp a.g];rfl
def nB.aa{X:ch}{h S':R af}{gv:Nat}{s:aX}{i:Nat}(a:nB X h gv s i)(y:U X S' gv=U X h gv):nB X S' gv s i:=⟨by rw[y];exact a.g,a.le,a.many,a.b7⟩
section
variable{X:ch}{h S' aK aJ:R af}{j am aM aR gv:Nat}{s:aX}{i:Nat}
def QM(au:di X){f:D}{p:Nat->Bool}(cb:Ng X f p)(Y:nB X h gv s i){F:Nat}(aA:F<=s.length):
 aW X 62 [.ptr gv 0, .Z (F:Int),f] h j (λac S' am=>ac= .str ((s.drop F).takeWhile p)/\S'=h/\am=j) (λ_ _ _=>False):=by
 refine zx au (amD X) ?_
 rw[amE]
 unfold aaM
 obtain⟨y,rfl,cb⟩:=cb
 have bo:=Y.many
 have dH:=Y.dH
 refine cI ⟨?_⟩
 refine fp (λm H S' aP=>∃(E:Nat),H.g 0=some (.ptr gv 0)/\H.g 1=some (.Z (F:Int))/\H.g 2=some (.func (.func y) [] [])/\H.g 7=some (.Z (E:Int))/\F<=E/\E+m=s.length/\S'=h/\aP=j/\(s.drop F).takeWhile p=(s.drop F).take (E-F)++(s.drop E).takeWhile p)
  (s.length-F) ⟨F,be,be,be,be,Zj _,Zo,rfl,rfl,Zs⟩ ?_
 rintro m H aJ aR ⟨E,t0,t1,ew,t7,atk,aDY,rfl,rfl,bw⟩
 have bD:=zv E
 have aS:nu (.str s) (some (.Z (F:Int))) (some (.Z (E:Int)))=some (.str ((s.drop F).take (E-F))):=W3 .i64 .i64 atk Zo
 cases m with
 |zero=>
  have d:=zr E s.length
  rw[ZD (by omega:s.length<=E),List.takeWhile_nil,Yv]at bw
  refine et @t7 @t0 @t1 @ew @dH @d @aS ⟨?_⟩
  exact⟨by rw[bw],rfl,rfl⟩
 |succ m=>
  have d:=zs E s.length
  obtain⟨c,ax⟩:=zt s E
  have aE:s.drop E=c::s.drop (E+1):=by
   obtain⟨ae,B⟩:=Zb.1 ax
   rw[Zr ae,B]
  have dw:=Cp .i64 ax
  refine et @t7 @t0 @t1 @ew @dH @d @dw ⟨?_⟩
  refine(cb aJ aR c).Zm ?_
  rintro ac a1 bn ⟨rfl,rfl,rfl⟩
  rw[aE,YA]at bw
  cases aw:p c with
  |false=>
   rw[aw]at bw
   simp only[Zy,ZC,Yv]at bw
   refine gb @t7 @t0 @t1 @dH @aS ⟨?_⟩
   exact⟨by rw[bw],rfl,rfl⟩
  |true=>
   rw[aw]at bw
   simp only[ZE]at bw
   refine cL @t7 @bD ⟨?_⟩
   refine⟨m,Zo,E+1,aZ t0,aZ t1,aZ ew,be,Zo,Zo,rfl,rfl, ?_⟩
   rw[bw,show E+1-F=(E-F)+1 by omega,ZU]
   have:(s.drop F)[E-F]? =some c:=by rw[YE,show F+(E-F)=E by omega];exact ax
   rw[this]
   simp
end
def LH(c:Nat):Bool:=decide (c=32)||decide (c=9)||decide (c=10)||decide (c=13)
structure i2(X:ch):Prop extends di X where
 idx:∀c:Nat,c<256->∃bu:Int,X.O 108 [.str [32,9,10,13], .int .u8 (c:Int)]=some (.Z bu)/\(0<=bu↔LH c=true)
 clone:∀s:aX,(∀c∈s,c<256)->s.length<=65536->X.O 129 [.str s]=some (.str s)
def oV(s:aX):Nat->Nat->Nat
 |0,i=>i
 |n+1,i=>match s[i]? with
  |none=>i
  |some c=>if LH c then oV s n (i+1)
   else if 2<=(s.drop i).length/\(s.drop i).take 2=[45,45]then oV s n (i+((s.drop i).takeWhile λc=>decide (c≠10)).length)else i
def FO{α:Type}(p:α->Bool):∀k:List α,(k.takeWhile p).length<=k.length:=by
 intro k
 induction k with
 |nil=>simp
 |cons F k ai=>rw[YA];split<;>simp<;>omega
section
variable{X:ch}{h S' aK aJ:R af}{j am aM aR gv:Nat}{s:aX}{i:Nat}
def awu(au:i2 X){c:Nat}(ax:c<256):aW X 60 [.str [32,9,10,13], .int .u8 (c:Int)] h j (λac S' am=>(∃bu:Int,ac= .Z bu/\(0<=bu↔LH c=true))/\S'=h/\am=j) (λ_ _ _=>False):=by
 refine zx au.todi (amz X) ?_
 rw[amA]
 unfold aaK
 refine zx au.todi (ank X) ?_
 rw[anl]
 unfold abd
 obtain⟨bu,J,Q⟩:=au.idx c ax
 exact GK J ⟨⟨bu,rfl,Q⟩,rfl,rfl⟩
def ab3(au:i2 X)(Y:nB X h gv s i)(ag:∀c∈s,c<256)(aF:(o X).a6<=j)(Ll:gv<j):
 aW X 38 [.ptr gv 0] h j (λac S' am=>nB X S' gv s (oV s s.length i)/\cg X [gv] h j S' am) (λ_ _ _=>False):=by
 refine zx au.todi (alR X) ?_
 rw[alS]
 unfold aal
 have bo:=Y.many
 have ir:=Y.b7
 refine cI ⟨?_⟩
 refine fp (λm H S' aP=>∃(T:Nat),H.g 0=some (.ptr gv 0)/\nB X S' gv s T/\s.length<=T+m/\oV s s.length i=oV s m T/\cg X [gv] h j S' aP)
  s.length ⟨i,be,Y,Zo,rfl,cg.refl _ _ _⟩ ?_
 rintro m H aJ aR ⟨T,t0,hr,ae3,bJ,du⟩
 have fC:=du.le
 have dH:=hr.dH
 have cX:=hr.cX
 have vU:=hr.le
 have b1:=hr.g
 by_cases Ei:T=s.length
 ·subst Ei
  have cm:oV s m s.length=s.length:=by cases m<;>simp[oV]
  have d:decide ((s.length:Int)<(s.length:Int))=false:=by simp
  refine fW @t0 @dH @cX @d ⟨?_⟩
  exact⟨by rw[bJ,cm];exact hr,du.trans ⟨Zo,λ_ _ _=>rfl⟩⟩
 have d:=zs T s.length
 obtain⟨c,ax⟩:=zt s T
 obtain⟨m,rfl⟩:∃gH,m=gH+1:=⟨m-1,Zo⟩
 rw[oV,ax]at bJ
 simp only[]at bJ
 have dw:=Cp .i64 ax
 have OR:=ag c (Zn ax)
 refine gb @t0 @dH @cX @d @dw ⟨?_⟩
 refine(awu au OR).Zm ?_
 rintro ac a1 bn ⟨⟨bu,rfl,cm⟩,rfl,rfl⟩
 cases eU:LH c with
 |true=>
  have lZ:=cm.2 eU
  have cH:decide ((0:Int)<=bu)=true:=by simp;omega
  have bD:=zv T
  rw[eU]at bJ
  simp only[ZE]at bJ
  refine fW @t0 @cX @cH @bD ⟨?_⟩
  refine⟨m,Zo,T+1,aZ t0,⟨by rw[bb Zo];rfl,Zo,bo,ir⟩,Zo,bJ,du.trans ⟨Zo,λb ag bU=>by simp only[Zt,ZI,YU,Ym,ZH,Yf]at bU;exact zw⟩⟩
 |false=>
  have cH:decide ((0:Int)<=bu)=false:=by simp;have:=mt cm.1 (by rw[eU];decide);omega
  have bD:nu (.str s) (some (.Z (T:Int))) none=some (.str (s.drop T)):=QR .i64 vU
  rw[eU]at bJ
  simp only[Zy,ZC]at bJ
  refine gb @t0 @dH @cX @cH @bD ⟨?_⟩
  refine(ah6 au.todi (s.drop T) [45,45]).Zm ?_
  rintro ac bA cv ⟨rfl,rfl,rfl⟩
  by_cases aw:2<=(s.drop T).length/\(s.drop T).take 2=[45,45]
  ·rw[Zp aw]at bJ
   have eY:decide ([45,45].length<=(s.drop T).length/\List.take [45,45].length (s.drop T)=[45,45])=true:=decide_eq_true aw
   have az:=FO (λc=>decide (c≠10)) (s.drop T)
   rw[Yp]at az
   generalize bw:((s.drop T).takeWhile λc=>decide (c≠10)).length=w at bJ az
   have pc:1<=w:=by
    have asG:c=45:=by
     have:=aw.2
     have aE:s.drop T=c::s.drop (T+1):=by
      obtain⟨ae,B⟩:=Zb.1 ax
      rw[Zr ae,B]
     rw[aE]at this
     simp at this
     exact this.1
    have aE:s.drop T=c::s.drop (T+1):=by
     obtain⟨ae,B⟩:=Zb.1 ax
     rw[Zr ae,B]
    rw[aE,asG,YA]at bw
    simp at bw
    omega
   have cG:bl .add (.Z (T:Int)) (.Z (w:Int))=some (.Z ((T+w:Nat):Int)):=by rw[eH Zo Zo];rfl
   simp only[eY]
   refine ed @t0 @dH @cX ⟨?_⟩
   refine(QM au.todi (aAP au.todi) hr vU).Zm ?_
   rintro ac bN cf ⟨rfl,rfl,rfl⟩
   have fV:np (.str ((s.drop T).takeWhile λc=>decide (c≠10)))=some (.Z (w:Int)):=by rw[AC,bw]
   refine ed @fV @cG @cX ⟨?_⟩
   refine gp (by simp[D.same]) ?_
   refine cI ⟨?_⟩
   refine⟨m,Zo,T+w,aZ t0,⟨by rw[bb Zo];rfl,Zo,bo,ir⟩,Zo,bJ,du.trans ⟨Zo,λb ag bU=>by simp only[Zt,ZI,YU,Ym,ZH,Yf]at bU;exact zw⟩⟩
  ·rw[Zh aw]at bJ
   have eY:decide ([45,45].length<=(s.drop T).length/\List.take [45,45].length (s.drop T)=[45,45])=false:=decide_eq_false aw
   simp only[eY]
   refine cI ⟨?_⟩
   exact⟨by rw[bJ];exact hr,du.trans ⟨Zo,λ_ _ _=>rfl⟩⟩
end
def tW:aX->Nat->Nat×Nat
 |[],n=>(n,0)
 |c::k,n=>if jh c then(if 1844674407370955162<=n then(18446744073709551615,1)else if 18446744073709551616<=n*10+(c-48)then(18446744073709551615,1)else tW k (n*10+(c-48)))
  else(0,2)
def kV(s:aX):Nat×Nat:=if s=[]then(0,2)else tW s 0
def xb:Nat->D
 |0=> .nilIface
 |n+1=> .iface 178 (.Z ((n+1:Nat):Int))
def aca{C:aL}{h:R af}{j:Nat}{s:aX}{ah:bI}(a:s.length<=1048576)(y:ah (.fc j 0 s.length 1) (bi C h j (some (.cells (R.ofList (s.map λn:Nat=>D.int .u8 (n:Int)) 0 .nil) s.length (.grow [])))) (j+1)):hN (QP C h j (.str s)) h j ah:=by
 refine j8 (v:= .fc j 0 s.length 1) (S':=bi C h j (some (.cells (R.ofList (s.map λn:Nat=>D.int .u8 (n:Int)) 0 .nil) s.length (.grow [])))) (am:=j+1) ?_ y
 simp[QP,uG,lr a,nQ]
def ajt{x:Int}(J:0<=x)(Q:x<18446744073709551616):oJ .u64 x=x:=by
 simp only[oJ];exact YO J Q
def awl{x e:Nat}(a:x+e<18446744073709551616):bl .add (.int .u64 (x:Int)) (.int .u64 (e:Int))=some (.int .u64 ((x+e:Nat):Int)):=by
 rw[agd];congr 2;rw[YO Zo Zo];rfl
def awn{x e:Nat}(a:x*e<18446744073709551616):bl .mul (.int .u64 (x:Int)) (.int .u64 (e:Int))=some (.int .u64 ((x*e:Nat):Int)):=by
 have:(x:Int)*(e:Int)=((x*e:Nat):Int):=by simp
 simp only[bl,l0,mr,lQ,ls,ff,k9,this]
 rw[ajt Zo Zo,G1]
def agf{x e:Nat}(a:e<=x)(Q:x<256):bl .sub (.int .u8 (x:Int)) (.int .u8 (e:Int))=some (.int .u8 ((x-e:Nat):Int)):=by
 have:(x:Int) -(e:Int)=((x-e:Nat):Int):=Zo
 have w:oJ .u8 ((x-e:Nat):Int)=((x-e:Nat):Int):=by simp only[oJ];exact YO Zo Zo
 simp only[bl,l0,mr,lQ,ls,ff,k9,this,w,G1]
def awk{x e:Nat}(Q:x+e<256):bl .add (.int .u8 (x:Int)) (.int .u8 (e:Int))=some (.int .u8 ((x+e:Nat):Int)):=by
 have:(x:Int)+(e:Int)=((x+e:Nat):Int):=Zo
 have w:oJ .u8 ((x+e:Nat):Int)=((x+e:Nat):Int):=by simp only[oJ];exact YO Zo Zo
 simp only[bl,l0,mr,lQ,ls,ff,k9,this,w,G1]
section
variable{X:ch}{h S' aK aJ:R af}{j am aM aR gv:Nat}{s:aX}{i:Nat}
def ai6(au:i2 X)(aD:s.length<=65536)(ag:∀c∈s,c<256)(aF:(o X).a6<=j){b:Int}(ato:b=0\/b=64):
 aW X 87 [.str s, .Z 10, .Z b] h j (λac S' am=>ac= .tuple [.int .u64 ((kV s).1:Int),xb (kV s).2]/\bf X h j S' am) (λ_ _ _=>False):=by
 refine zx au.todi (ano X) ?_
 rw[anp]
 unfold abf
 by_cases aY:s=[]
 ·subst aY
  have d:decide (([]:List Nat)=[])=true:=rfl
  refine ce @d ⟨?_⟩
  exact⟨rfl,dA⟩
 have d:decide (s=[])=false:=by simp[aY]
 have aB:decide ((2:Int)<=10)=true:=rfl
 have JR:decide ((10:Int)<=36)=true:=rfl
 have apT:decide ((10:Int)=10)=true:=rfl
 have eh:bl .shl (.int .u64 1) (.int .u64 64)=some (.int .u64 0):=by rfl
 have My:bl .sub (.int .u64 0) (.int .u64 1)=some (.int .u64 18446744073709551615):=by rfl
 have act:ob .u64 (.Z 64)=some (.int .u64 64):=by rfl
 have apQ:(64:Int)%18446744073709551616=64:=rfl
 have acu:(10:Int)%18446744073709551616=10:=rfl
 have jn:decide ((10:Int)=0)=false:=rfl
 have ava:kV s=tW s 0:=by simp[kV,aY]
 rw[ava]
 rcases ato with rfl|rfl
 all_goals
  have c1:decide ((0:Int)=0)=true:=rfl
  have cH:decide ((64:Int)=0)=false:=rfl
  have eY:decide ((64:Int)<0)=false:=rfl
  have ja:decide ((64:Int)<64)=false:=rfl
  refine et @d @aB @JR @apT @jn @c1 (Za @cH (Za @eY (Za @ja (Za @eh (Za @My (Za @act @apQ)))))) ⟨?_⟩
  refine aca Zo ?_
  have Th:U X (bi X h j (some (.cells (R.ofList (s.map λn:Nat=>D.int .u8 (n:Int)) 0 .nil) s.length (.grow [])))) j=some (.cells (R.ofList (s.map λn:Nat=>D.int .u8 (n:Int)) 0 .nil) s.length (.grow [])):=bb aF
  have TI:bf X h j (bi X h j (some (.cells (R.ofList (s.map λn:Nat=>D.int .u8 (n:Int)) 0 .nil) s.length (.grow [])))) (j+1):=dA
  generalize bi X h j (some (.cells (R.ofList (s.map λn:Nat=>D.int .u8 (n:Int)) 0 .nil) s.length (.grow [])))=vm at*
  refine cI ⟨?_⟩
  refine fp (λm H S' aP=>∃(T n:Nat),H.g 99=some (.fc j 0 s.length 1)/\H.g 100=some (.Z (s.length:Int))/\H.g 101=some (.Z (T:Int))/\H.g 13=some (.int .u64 (n:Int))/\H.g 10=some (.int .u64 1844674407370955162)/\H.g 11=some (.int .u64 18446744073709551615)/\H.g 12=some .zF/\H.g 8=some .zF/\H.g 1=some (.Z 10)/\T+m=s.length/\n<18446744073709551616/\S'=vm/\j+1<=aP/\tW s 0=tW (s.drop T) n)
   s.length ⟨0,0,be,be,fO,fO,be,be,be,be,be,Zo,Zo,rfl,Zo,rfl⟩ ?_
  rintro m H aJ aR ⟨T,n,MF,IS,MD,l3,oE,pn,u5,t8,t1,bJ,aED,rfl,lB,aw⟩
  have bC:bf X h j aJ aR:=⟨Zo,TI.aa⟩
  cases m with
  |zero=>
   have gs:=zr T s.length
   rw[ZD (by omega:s.length<=T),tW]at aw
   rw[aw]
   refine gb @MD @IS @u5 @l3 @gs ⟨?_⟩
   exact⟨rfl,bC⟩
  |succ m=>
   have gs:=zs T s.length
   have bD:=zv T
   obtain⟨c,ax⟩:=zt s T
   have aE:s.drop T=c::s.drop (T+1):=by
    obtain⟨ae,B⟩:=Zb.1 ax
    rw[Zr ae,B]
   have OR:=ag c (Zn ax)
   have dw:gt 1 (.fc j 0 s.length 1) (.Z (T:Int))=some (.ptr j T):=by rw[H6 _ Zo];simp
   have vY:aI X aJ (.ptr j T)=some (.int .u8 (c:Int)):=by rw[bp Th,mR];simp[ax]
   rw[aE,tW]at aw
   rw[aw]
   have aFd:decide ((c:Int)=95)=decide (c=95):=by simp;omega
   have ES:ob .u8 (.Z 10)=some (.int .u8 10):=rfl
   by_cases qz:jh c=true
   ·have Ue:48<=c/\c<=57:=by simpa[jh]using qz
    rw[Zp qz]
    have wd:decide ((c:Int)=95)=false:=by simp;omega
    have bW:decide ((48:Int)<=(c:Int))=true:=by simp;omega
    have cq:decide ((c:Int)<=57)=true:=by simp;omega
    have cS:bl .sub (.int .u8 (c:Int)) (.int .u8 48)=some (.int .u8 ((c-48:Nat):Int)):=agf (e:=48) Zo OR
    have d1:decide ((10:Int)<=((c-48:Nat):Int))=false:=by simp;omega
    by_cases OS:1844674407370955162<=n
    ·rw[Zp OS]
     have dY:decide ((1844674407370955162:Int)<=(n:Int))=true:=by simp;omega
     refine et @MD @IS @MF @t8 @t1 @gs (Za @dw (Za @vY (Za @wd (Za @bW (Za @cq (Za @cS (Za @d1 (Za @ES (Za @l3 (Za @oE (Za @dY @pn))))))))))) ⟨?_⟩
     exact⟨rfl,bC⟩
    ·rw[Zh OS]
     have dY:decide ((1844674407370955162:Int)<=(n:Int))=false:=by simp;omega
     have dk:bl .mul (.int .u64 (n:Int)) (.int .u64 10)=some (.int .u64 ((n*10:Nat):Int)):=awn (e:=10) Zo
     have fJ:((c-48:Nat):Int)%18446744073709551616=((c-48:Nat):Int):=YO Zo Zo
     by_cases UW:18446744073709551616<=n*10+(c-48)
     ·rw[Zp UW]
      have gM:bl .add (.int .u64 ((n*10:Nat):Int)) (.int .u64 ((c-48:Nat):Int))=some (.int .u64 ((n*10+(c-48) -18446744073709551616:Nat):Int)):=by
       have auO:(((n*10:Nat):Int)+((c-48:Nat):Int))%18446744073709551616=((n*10+(c-48) -18446744073709551616:Nat):Int):=Zo
       rw[agd,auO]
      have he:decide (((n*10+(c-48) -18446744073709551616:Nat):Int)<((n*10:Nat):Int))=true:=by simp only[Zg];omega
      refine et @MD @IS @MF @t8 @t1 @gs (Za @dw (Za @vY (Za @wd (Za @bW (Za @cq (Za @cS (Za @d1 (Za @ES (Za @l3 (Za @oE (Za @dY (Za @acu (Za @dk (Za @fJ (Za @gM (Za @he @pn)))))))))))))))) ⟨?_⟩
      exact⟨rfl,bC⟩
     ·have HK:=aw
      rw[Zp qz,Zh OS,Zh UW]at HK
      rw[Zh UW]
      have gM:bl .add (.int .u64 ((n*10:Nat):Int)) (.int .u64 ((c-48:Nat):Int))=some (.int .u64 ((n*10+(c-48):Nat):Int)):=awl Zo
      have he:decide (((n*10+(c-48):Nat):Int)<((n*10:Nat):Int))=false:=by simp only[Zc];omega
      have we:decide ((18446744073709551615:Int)<((n*10+(c-48):Nat):Int))=false:=by simp only[Zc];omega
      refine et @MD @IS @MF @t8 @t1 @gs (Za @dw (Za @vY (Za @wd (Za @bW (Za @cq (Za @cS (Za @d1 (Za @ES (Za @l3 (Za @oE (Za @dY (Za @acu (Za @dk (Za @fJ (Za @gM (Za @he (Za @we (Za @pn @bD)))))))))))))))))) ⟨?_⟩
      exact⟨m,Zo,T+1,n*10+(c-48),aZ MF,aZ IS,be,be,aZ oE,aZ pn,aZ u5,aZ t8,aZ t1,Zo,Zo,rfl,Zo,by first|exact HK|rw[HK]|rfl⟩
   ·have Ue:¬(48<=c/\c<=57):=by simpa[jh]using qz
    rw[Zh qz]
    have ajS:rA c<256:=Nat.mod_lt _ Zo
    have cN:decide ((97:Int)<=(rA c:Int))=decide (97<=rA c):=by simp;omega
    have cB:decide ((rA c:Int)<=122)=decide (rA c<=122):=by simp;omega
    have bW:decide ((48:Int)<=(c:Int))=decide (48<=c):=by simp;omega
    have cq:decide ((c:Int)<=57)=decide (c<=57):=by simp;omega
    have fin:97<=rA c->rA c<=122->∃bu:Nat,bl .sub (.int .u8 (rA c:Int)) (.int .u8 97)=some (.int .u8 ((rA c-97:Nat):Int))/\bl .add (.int .u8 ((rA c-97:Nat):Int)) (.int .u8 10)=some (.int .u8 ((rA c-97+10:Nat):Int))/\decide ((10:Int)<=((rA c-97+10:Nat):Int))=true:=λJ Q=>
     ⟨0,agf (e:=97) J ajS,awk (e:=10) Zo,by simp only[Zg];omega⟩
    by_cases aDP:c=95<;>by_cases asH:48<=c<;>by_cases asI:c<=57<;>try omega
    all_goals
     simp only[asH,asI,YB,Yl]at bW cq
     first|have agr:decide ((c:Int)=95)=true:=by simp only[Zg];omega|have agr:decide ((c:Int)=95)=false:=by simp only[Zc];omega
     refine et @MD @IS @MF @t8 @t1 @gs (Za @dw (Za @vY (Za @agr (Za @bW @cq)))) ⟨?_⟩
     refine(V9 au.todi c).Zm ?_
     rintro ac a1 bn ⟨rfl,rfl,rfl⟩
     by_cases qB:97<=rA c
     ·simp only[qB,YB]at cN
      refine ce @cN ⟨?_⟩
      refine(V9 au.todi c).Zm ?_
      rintro ac a1 bn ⟨rfl,rfl,rfl⟩
      by_cases mJ:rA c<=122
      ·simp only[mJ,YB]at cB
       refine ce @cB ⟨?_⟩
       refine(V9 au.todi c).Zm ?_
       rintro ac a1 bn ⟨rfl,rfl,rfl⟩
       obtain⟨_,eQ,fd,kw⟩:=fin qB mJ
       refine gb @eQ @fd @kw @ES @t1 ⟨?_⟩
       exact⟨rfl,bC⟩
      ·simp only[mJ,Yl]at cB
       refine ce @cB ⟨?_⟩
       exact⟨rfl,bC⟩
     ·simp only[qB,Yl]at cN
      refine ce @cN ⟨?_⟩
      exact⟨rfl,bC⟩
end
structure l6(X:ch):Prop where
 aBs:∃b,∀h,aI X h (.ptr 5 0)=some (.iface 206 (.ptr b 0))
 seven:∃b,∀h,aI X h (.ptr 6 0)=some (.iface 206 (.ptr b 0))
section
variable{X:ch}{h S' aK aJ:R af}{j am aM aR gv:Nat}{s:aX}{i:Nat}
def aqx:dc X h .eql 139 false (.iface 178 (.Z 2)) (.iface 178 (.Z 2))=some .zT:=Zk
def aqw:dc X h .eql 139 false (.iface 178 (.Z 1)) (.iface 178 (.Z 2))=some .zF:=Zk
def aqv:dc X h .eql 139 false (.iface 178 (.Z 1)) (.iface 178 (.Z 1))=some .zT:=Zk
def Im(y:Int):dc X h .neq 139 true (.iface 178 (.Z y)) .nilIface=some .zT:=Zk
def Fa:dc X h .neq 139 true .nilIface .nilIface=some .zF:=Zk
def aho(b:Nat):dc X h .neq 139 true (.iface 181 (.ptr b 0)) .nilIface=some .zT:=Zk
def aCe(au:i2 X)(bT:l6 X)(f:aX)(aD:s.length<=65536)(qx:∀c∈s,c<256)(aF:(o X).a6<=j):
 aW X 111 [.str f, .str s] h j (λac S' am=>(∃b,ac= .ptr b 0)/\bf X h j S' am) (λ_ _ _=>False):=by
 refine zx au.todi (ake X) ?_
 rw[akf]
 unfold XS
 obtain⟨b,ag⟩:=bT.aBs
 refine ce @ag ⟨?_⟩
 refine GK (au.clone s qx aD) ?_
 refine ce @ag ⟨?_⟩
 refine gp (by simp[D.same]) ?_
 exact⟨⟨_,rfl⟩,dA⟩
def aAl(au:i2 X)(bT:l6 X)(f:aX)(aD:s.length<=65536)(qx:∀c∈s,c<256)(aF:(o X).a6<=j):
 aW X 112 [.str f, .str s] h j (λac S' am=>(∃b,ac= .ptr b 0)/\bf X h j S' am) (λ_ _ _=>False):=by
 refine zx au.todi (akg X) ?_
 rw[akh]
 unfold XT
 obtain⟨b,ag⟩:=bT.seven
 refine ce @ag ⟨?_⟩
 refine GK (au.clone s qx aD) ?_
 refine ce @ag ⟨?_⟩
 refine gp (by simp[D.same]) ?_
 exact⟨⟨_,rfl⟩,dA⟩
def N0(au:i2 X)(bT:l6 X)(f:aX)(x e:D)(aD:s.length<=65536)(qx:∀c∈s,c<256)(aF:(o X).a6<=j){y:Nat}(aH:y=1\/y=2):
 aW X 88 [.str f, .str s,x,e,xb y] h j (λac S' am=>(∃b,ac= .iface 181 (.ptr b 0))/\bf X h j S' am) (λ_ _ _=>False):=by
 refine zx au.todi (anq X) ?_
 rw[anr]
 unfold abg
 rcases aH with rfl|rfl
 ·have bD:xb 1= .iface 178 (.Z 1):=rfl
  rw[bD]
  refine cL @aqw @aqv ⟨?_⟩
  refine(aAl au bT f aD qx aF).Zm ?_
  rintro ac a1 bn ⟨⟨b,rfl⟩,ck⟩
  refine cI ⟨?_⟩
  exact⟨⟨_,rfl⟩,ck⟩
 ·have bD:xb 2= .iface 178 (.Z 2):=rfl
  rw[bD]
  refine ce @aqx ⟨?_⟩
  refine(aCe au bT f aD qx aF).Zm ?_
  rintro ac a1 bn ⟨⟨b,rfl⟩,ck⟩
  refine cI ⟨?_⟩
  exact⟨⟨_,rfl⟩,ck⟩
def az9:∀(k:aX) (n:Nat),(tW k n).2=0\/(tW k n).2=1\/(tW k n).2=2:=by
 intro k
 induction k with
 |nil=>intro n;exact .inl rfl
 |cons c k ai=>
  intro n
  rw[tW]
  split
  ·split
   ·exact .inr (.inl rfl)
   ·split
    ·exact .inr (.inl rfl)
    ·exact ai _
  ·exact .inr (.inr rfl)
def ah7(k:aX):(kV k).2=0\/(kV k).2=1\/(kV k).2=2:=by
 unfold kV;split
 ·exact .inr (.inr rfl)
 ·exact az9 _ _
def azG(au:i2 X)(bT:l6 X)(aD:s.length<=65536)(ag:∀c∈s,c<256)(aF:(o X).a6<=j):
 aW X 64 [.str s, .Z 10, .Z 64] h j (λac S' am=>(∃E,ac= .tuple [.int .u64 ((kV s).1:Int),E]/\((kV s).2=0/\E= .nilIface\/(kV s).2≠0/\∃b,E= .iface 181 (.ptr b 0)))/\bf X h j S' am) (λ_ _ _=>False):=by
 refine zx au.todi (amH X) ?_
 rw[amI]
 unfold aaO
 refine(ai6 au aD ag aF (.inr rfl)).Zm ?_
 rintro ac a1 bn ⟨rfl,ck⟩
 have jf:=ck.le
 rcases ah7 s with a|a|a
 ·rw[a]
  have bD:xb 0= .nilIface:=rfl
  rw[bD]
  refine ce @Fa ⟨?_⟩
  exact⟨⟨_,rfl, .inl ⟨rfl,rfl⟩⟩,ck⟩
 ·rw[a]
  have bD:xb 1= .iface 178 (.Z 1):=rfl
  rw[bD]
  refine ce @Im ⟨?_⟩
  refine(N0 (j:=bn) (h:=a1) au bT [80,97,114,115,101,85,105,110,116] (.Z 10) (.Z 64) aD ag (ZA aF jf) (y:=1) Zd).Zm ?_
  rintro ac bA cv ⟨⟨b,rfl⟩,cW⟩
  refine cI ⟨?_⟩
  exact⟨⟨_,rfl, .inr ⟨Zd,b,rfl⟩⟩,ck.trans cW⟩
 ·rw[a]
  have bD:xb 2= .iface 178 (.Z 2):=rfl
  rw[bD]
  refine ce @Im ⟨?_⟩
  refine(N0 (j:=bn) (h:=a1) au bT [80,97,114,115,101,85,105,110,116] (.Z 10) (.Z 64) aD ag (ZA aF jf) (y:=2) Zd).Zm ?_
  rintro ac bA cv ⟨⟨b,rfl⟩,cW⟩
  refine cI ⟨?_⟩
  exact⟨⟨_,rfl, .inr ⟨Zd,b,rfl⟩⟩,ck.trans cW⟩
end
def XC(E:D):Prop:=E= .nilIface\/E= .iface 178 (.Z 1)\/E= .iface 178 (.Z 2)
def Do(s:aX):Prop:=∀c∈s,c≠43/\c≠45
def ya(s:aX):Nat:=s.foldl (λn c=>n*10+(c-48)) 0
def aAa:∀(k:aX) (n:Nat),n<18446744073709551616->(tW k n).1<18446744073709551616:=by
 intro k
 induction k with
 |nil=>intro n a;exact a
 |cons c k ai=>
  intro n a
  rw[tW]
  split
  ·split
   ·show 18446744073709551615<_;omega
   ·split
    ·show 18446744073709551615<_;omega
    ·exact ai _ Zo
  ·show 0<_;omega
def ah8(k:aX):(kV k).1<18446744073709551616:=by
 unfold kV;split
 ·show 0<_;omega
 ·exact aAa _ _ Zo
section
variable{X:ch}{h S' aK aJ:R af}{j am aM aR gv:Nat}{s:aX}{i:Nat}
def ahq:dc X h .neq 139 false (.iface 178 (.Z 1)) (.iface 178 (.Z 1))=some .zF:=Zk
def ahr:dc X h .neq 139 false (.iface 178 (.Z 2)) (.iface 178 (.Z 1))=some .zT:=Zk
def agk(au:i2 X)(aD:s.length<=65536)(ag:∀c∈s,c<256)(uP:Do s)(aF:(o X).a6<=j):
 aW X 131 [.str s, .Z 10, .Z 0] h j (λac S' am=>(∃bu E,ac= .tuple [.Z bu,E]/\XC E)/\bf X h j S' am) (λ_ _ _=>False):=by
 refine zx au.todi (akO X) ?_
 rw[akP]
 unfold X9
 by_cases aY:s=[]
 ·subst aY
  have d:decide (([]:List Nat)=[])=true:=rfl
  refine ce @d ⟨?_⟩
  exact⟨⟨_,_,rfl, .inr (.inr rfl)⟩,bf.refl _ _⟩
 have d:decide (s=[])=false:=by simp[aY]
 obtain⟨c,eX,rfl⟩:∃c eX,s=c::eX:=by cases s with
  |nil=>exact absurd rfl aY
  |cons c eX=>exact⟨c,eX,rfl⟩
 have dw:ov (.str (c::eX)) (.Z 0)=some (.int .u8 (c:Int)):=Cp (i:=0) .i64 rfl
 have ax:=uP c (Zv ..)
 have bW:decide ((c:Int)=43)=false:=by simp only[Zc];omega
 have cq:decide ((c:Int)=45)=false:=by simp only[Zc];omega
 refine fW @d @dw @bW @cq ⟨?_⟩
 refine(ai6 au aD ag aF (.inl rfl)).Zm ?_
 rintro ac a1 bn ⟨rfl,ck⟩
 have jf:=ck.le
 generalize aw:kV (c::eX)=p
 have o9:=ah7 (c::eX)
 have tC:=ah8 (c::eX)
 rw[aw]at o9 tC
 obtain⟨MO,aDJ⟩:=p
 simp only[]at o9 tC ⊢
 have jn:decide ((0:Int)=0)=true:=rfl
 have jw:bl .sub (.Z 64) (.Z 1)=some (.Z 63):=rfl
 have jY:(63:Int)%18446744073709551616=63:=rfl
 have Mv:bl .shl (.int .u64 1) (.int .u64 63)=some (.int .u64 9223372036854775808):=rfl
 have aA3:bl .sub (.int .u64 9223372036854775808) (.int .u64 1)=some (.int .u64 9223372036854775807):=rfl
 have aA4:ob .i64 (.int .u64 9223372036854775807)=some (.Z 9223372036854775807):=rfl
 rcases o9 with rfl|rfl|rfl
 all_goals
  simp only[show xb 0= .nilIface from rfl,show xb 1= .iface 178 (.Z 1) from rfl,show xb 2= .iface 178 (.Z 2) from rfl]
  by_cases OS:9223372036854775808<=MO
  ·have c1:decide ((9223372036854775808:Int)<=(MO:Int))=true:=by simp only[Zg];omega
   refine et @Fa @Im @ahq @ahr @jn @jw (Za @jY (Za @Mv (Za @c1 (Za @aA3 @aA4)))) ⟨?_⟩
   exact⟨⟨_,_,rfl,by first|exact .inl rfl|exact .inr (.inl rfl)|exact .inr (.inr rfl)⟩,ck⟩
  ·have c1:decide ((9223372036854775808:Int)<=(MO:Int))=false:=by simp only[Zc];omega
   have aA5:ob .i64 (.int .u64 (MO:Int))=some (.Z (MO:Int)):=acv Zo Zo
   refine et @Fa @Im @ahq @ahr @jn @jw (Za @jY (Za @Mv (Za @c1 @aA5))) ⟨?_⟩
   exact⟨⟨_,_,rfl,by first|exact .inl rfl|exact .inr (.inl rfl)|exact .inr (.inr rfl)⟩,ck⟩
end
def age{x e:Int}(J: -9223372036854775808<=x*e)(Q:x*e<9223372036854775808):bl .mul (.Z x) (.Z e)=some (.Z (x*e)):=by
 simp[bl,l0,mr,lQ,k9,wrap64 J Q]
def awo{c:Nat}(a:c<256):bl .sub (.int .u8 (c:Int)) (.int .u8 48)=some (.int .u8 (((c+208)%256:Nat):Int)):=by
 have w:oJ .u8 ((c:Int) -48)=(((c+208)%256:Nat):Int):=by
  show((c:Int) -48)%256=_
  omega
 simp only[bl,l0,mr,lQ,ls,ff,k9,w,G1]
def aCU(k:aX)(c:Nat):ya (k++[c])=ya k*10+(c-48):=by simp[ya,List.foldl_append]
section
variable{X:ch}{h S' aK aJ:R af}{j am aM aR gv:Nat}{s:aX}{i:Nat}
def ajH(s:aX)(ac:D):Prop:=∃bu E,ac= .tuple [.Z bu,E]/\XC E/\(s≠[]->s.length<19->(∀c∈s,jh c=true)->E= .nilIface/\bu=(ya s:Int))
def aoO(au:i2 X)(aD:s.length<=65536)(ag:∀c∈s,c<256)(uP:Do s)(aF:(o X).a6<=j):
 aW X 115 [.str s] h j (λac S' am=>ajH s ac/\bf X h j S' am) (λ_ _ _=>False):=by
 refine zx au.todi (aki X) ?_
 rw[akj]
 unfold XU
 by_cases aY:s=[]
 ·subst aY
  have jn:decide ((0:Int)<((0:Nat):Int))=false:=rfl
  refine ce @jn ⟨?_⟩
  refine(agk au aD ag uP aF).Zm ?_
  rintro ac a1 bn ⟨⟨bu,E,rfl,bz⟩,ck⟩
  refine cI ⟨?_⟩
  exact⟨⟨bu,E,rfl,bz,λa=>absurd rfl a⟩,ck⟩
 have om:0<s.length:=Yj.2 aY
 have jn:decide ((0:Int)<(s.length:Int))=true:=by simp only[Zg];omega
 by_cases Kk:s.length<19
 ·have c1:decide ((s.length:Int)<19)=true:=by simp only[Zg];omega
  obtain⟨c,tp⟩:∃c,s[0]? =some c:=⟨_,Ze om⟩
  have dw:ov (.str s) (.Z 0)=some (.int .u8 (c:Int)):=Cp (i:=0) .i64 tp
  have ax:=uP c (Zn tp)
  have bW:decide ((c:Int)=43)=false:=by simp only[Zc];omega
  have cq:decide ((c:Int)=45)=false:=by simp only[Zc];omega
  refine gb @jn @c1 @dw @bW @cq ⟨?_⟩
  refine aca Zo ?_
  have Th:U X (bi X h j (some (.cells (R.ofList (s.map λn:Nat=>D.int .u8 (n:Int)) 0 .nil) s.length (.grow [])))) j=some (.cells (R.ofList (s.map λn:Nat=>D.int .u8 (n:Int)) 0 .nil) s.length (.grow [])):=bb aF
  have TI:bf X h j (bi X h j (some (.cells (R.ofList (s.map λn:Nat=>D.int .u8 (n:Int)) 0 .nil) s.length (.grow [])))) (j+1):=dA
  generalize bi X h j (some (.cells (R.ofList (s.map λn:Nat=>D.int .u8 (n:Int)) 0 .nil) s.length (.grow [])))=vm at*
  refine cI ⟨?_⟩
  refine fp (λm H S' aP=>∃(T n p:Nat),H.g 47=some (.fc j 0 s.length 1)/\H.g 48=some (.Z (s.length:Int))/\H.g 49=some (.Z (T:Int))/\H.g 6=some (.Z (n:Int))/\H.g 5=some (.str s)/\T+m=s.length/\p*10^m<=10^18/\n<p/\S'=vm/\j+1<=aP/\n=ya (s.take T))
   s.length ⟨0,0,1,be,be,fO,fO,be,Zo,by rw[Nat.one_mul];exact Nat.pow_le_pow_right Zo Zo,Zo,rfl,Zo,rfl⟩ ?_
  rintro m H aJ aR ⟨T,n,p,Xd,QX,sK,t6,t5,bJ,wa,aEJ,rfl,lB,bv⟩
  have bC:bf X h j aJ aR:=⟨Zo,TI.aa⟩
  cases m with
  |zero=>
   have gs:=zr T s.length
   refine et @sK @QX @t5 @t6 @gs @dw @cq ⟨?_⟩
   rw[ZB Zo]at bv
   exact⟨⟨_,_,rfl, .inl rfl,λ_ _ _=>⟨rfl,by rw[bv]⟩⟩,bC⟩
  |succ m=>
   have gs:=zs T s.length
   have bD:=zv T
   obtain⟨F,aA⟩:∃c,s[T]? =some c:=⟨_,Ze Zo⟩
   have ati:=ag F (Zn aA)
   have KZ:gt 1 (.fc j 0 s.length 1) (.Z (T:Int))=some (.ptr j T):=by rw[H6 _ Zo];simp
   have vY:aI X aJ (.ptr j T)=some (.int .u8 (F:Int)):=by rw[bp Th,mR];simp[aA]
   have cG:=awo ati
   generalize bw:(F+208)%256=w at cG
   by_cases hG:9<w
   ·have hF:decide ((9:Int)<(w:Int))=true:=by simp only[Zg];omega
    refine et @sK @QX @Xd @gs @KZ @vY (Za @cG @hF) ⟨?_⟩
    refine⟨⟨_,_,rfl, .inr (.inr rfl),λ_ _ ly=> ?_⟩,bC⟩
    have:=ly F (Zn aA)
    simp[jh]at this
    omega
   ·have hF:decide ((9:Int)<(w:Int))=false:=by simp only[Zc];omega
    have Ue:48<=F/\F<=57/\w=F-48:=Zo
    have eo:p*10<=10^18:=by
     have:p*10^(m+1)=(p*10)*10^m:=by rw[Nat.pow_succ];rw[Nat.mul_assoc,zn (10^m) 10]
     rw[this]at wa
     exact ZA (YW _ (Nat.pos_of_ne_zero Zs)) wa
    have dD:p*10*10^m<=10^18:=by
     have:p*10^(m+1)=(p*10)*10^m:=by rw[Nat.pow_succ];rw[Nat.mul_assoc,zn (10^m) 10]
     rw[this]at wa;exact wa
    have gV:p*10<=1000000000000000000:=eo
    have fV:bl .mul (.Z (n:Int)) (.Z 10)=some (.Z ((n*10:Nat):Int)):=by rw[age Zo Zo];rfl
    have ke:ob .i64 (.int .u8 (w:Int))=some (.Z (w:Int)):=acv Zo Zo
    have qp:bl .add (.Z ((n*10:Nat):Int)) (.Z (w:Int))=some (.Z ((n*10+w:Nat):Int)):=by rw[eH Zo Zo];rfl
    refine et @sK @QX @Xd @gs @KZ @vY (Za @cG (Za @hF (Za @t6 (Za @fV (Za @ke (Za @qp @bD)))))) ⟨?_⟩
    refine⟨m,Zo,T+1,n*10+w,p*10,aZ Xd,aZ QX,be,be,aZ t5,Zo,dD,Zo,rfl,Zo, ?_⟩
    rw[ZU,aA]
    show _=ya (s.take T++[F])
    rw[aCU, <-bv,Ue.2.2]
 ·have c1:decide ((s.length:Int)<19)=false:=by simp only[Zc];omega
  refine cL @jn @c1 ⟨?_⟩
  refine(agk au aD ag uP aF).Zm ?_
  rintro ac a1 bn ⟨⟨bu,E,rfl,bz⟩,ck⟩
  refine cI ⟨?_⟩
  exact⟨⟨bu,E,rfl,bz,λ_ a=>absurd a Kk⟩,ck⟩
def ajI(s:aX)(ac:D):Prop:=∃bu E,ac= .tuple [.Z bu,E]/\(E= .nilIface\/∃b,E= .iface 181 (.ptr b 0))/\(s≠[]->s.length<19->(∀c∈s,jh c=true)->E= .nilIface/\bu=(ya s:Int))
def abW(au:i2 X)(bT:l6 X)(aD:s.length<=65536)(ag:∀c∈s,c<256)(uP:Do s)(aF:(o X).a6<=j):
 aW X 89 [.str s] h j (λac S' am=>ajI s ac/\bf X h j S' am) (λ_ _ _=>False):=by
 refine zx au.todi (ans X) ?_
 rw[ant]
 unfold abh
 refine(aoO au aD ag uP aF).Zm ?_
 rintro ac a1 bn ⟨⟨bu,E,rfl,bz,ae⟩,ck⟩
 have jf:=ck.le
 rcases bz with rfl|rfl|rfl
 ·refine ce @Fa ⟨?_⟩
  exact⟨⟨_,_,rfl, .inl rfl,ae⟩,ck⟩
 ·refine ce @Im ⟨?_⟩
  refine(N0 (j:=bn) (h:=a1) au bT [65,116,111,105] (.Z 0) (.Z 0) aD ag (ZA aF jf) (y:=1) Zd).Zm ?_
  rintro ac bA cv ⟨⟨b,rfl⟩,cW⟩
  refine cI ⟨?_⟩
  exact⟨⟨_,_,rfl, .inr ⟨b,rfl⟩,λJ Q ak=>absurd (ae J Q ak).1 Zs⟩,ck.trans cW⟩
 ·refine ce @Im ⟨?_⟩
  refine(N0 (j:=bn) (h:=a1) au bT [65,116,111,105] (.Z 0) (.Z 0) aD ag (ZA aF jf) (y:=2) Zd).Zm ?_
  rintro ac bA cv ⟨⟨b,rfl⟩,cW⟩
  refine cI ⟨?_⟩
  exact⟨⟨_,_,rfl, .inr ⟨b,rfl⟩,λJ Q ak=>absurd (ae J Q ak).1 Zs⟩,ck.trans cW⟩
end
def lb(t:er):Bool:=if t.b then !t.s&&decide (t.w=1)else decide (1<=t.w)&&decide (t.w<=64)
def jV(n:Nat):aX:=if n<10 then[48+n]else[48+n/10,48+n%10]
def nW(t:er):aX:=if lb t then(if t.b then[98,111,111,108]else(if t.s then 105 else 117)::jV t.w.toNat)else[]
def lJ:aX->Option er
 |[]=>none
 |c::k=>if c::k=[98,111,111,108]then some ⟨true,false,1⟩
  else if c=105\/c=117 then((List.range 65).find? λn=>decide (1<=n)&&decide (jV n=k)).map λn:Nat=>⟨false,decide (c=105),(n:Int)⟩
  else none
section
variable{X:ch}{h S' aK aJ:R af}{j am aM aR gv:Nat}{s:aX}{i:Nat}
def E7(au:di X)(t:er)(aF:(o X).a6<=j):aW X 90 [.agg (eD t)] h j (λac S' am=>ac= .bool (lb t)/\bf X h j S' am) (λ_ _ _=>False):=by
 refine zx au (anw X) ?_
 rw[anx]
 unfold abj eD
 obtain⟨b,s,w⟩:=t
 cases b<;>cases s
 all_goals
  by_cases J:1<=w
  ·have c1:decide ((1:Int)<=w)=true:=by simp[J]
   refine ce @c1 ⟨?_⟩
   exact⟨by simp[lb,J],dA⟩
  ·have c1:decide ((1:Int)<=w)=false:=by simp[J]
   refine ce @c1 ⟨?_⟩
   exact⟨by simp[lb,J],dA⟩
def aBB:∀n<10,([48,49,50,51,52,53,54,55,56,57,97,98,99,100,101,102,103,104,105,106,107,108,109,110,111,112,113,114,115,116,117,118,119,120,121,122].drop n).take (n+1-n)=jV n:=by decide+kernel
def QT:aX:=[48,48,48,49,48,50,48,51,48,52,48,53,48,54,48,55,48,56,48,57,49,48,49,49,49,50,49,51,49,52,49,53,49,54,49,55,49,56,49,57,50,48,50,49,50,50,50,51,50,52,50,53,50,54,50,55,50,56,50,57,51,48,51,49,51,50,51,51,51,52,51,53,51,54,51,55,51,56,51,57,52,48,52,49,52,50,52,51,52,52,52,53,52,54,52,55,52,56,52,57,53,48,53,49,53,50,53,51,53,52,53,53,53,54,53,55,53,56,53,57,54,48,54,49,54,50,54,51,54,52,54,53,54,54,54,55,54,56,54,57,55,48,55,49,55,50,55,51,55,52,55,53,55,54,55,55,55,56,55,57,56,48,56,49,56,50,56,51,56,52,56,53,56,54,56,55,56,56,56,57,57,48,57,49,57,50,57,51,57,52,57,53,57,54,57,55,57,56,57,57]
def aBD:QT.length=200:=by decide+kernel
def aBC:∀n<100,10<=n->(QT.drop (n*2)).take (n*2+2-n*2)=jV n:=by decide+kernel
def PR(au:di X){n:Nat}(aF:n<100):aW X 116 [.Z (n:Int)] h j (λac S' am=>ac= .str (jV n)/\S'=h/\am=j) (λ_ _ _=>False):=by
 refine zx au (akk X) ?_
 rw[akl]
 unfold XV
 refine zx au (akQ X) ?_
 rw[akR]
 unfold β
 refine zx au (ak4 X) ?_
 rw[ak5]
 unfold ι
 have jn:decide ((0:Int)<=(n:Int))=true:=by simp only[Zg];omega
 have c1:decide ((n:Int)<100)=true:=by simp only[Zg];omega
 refine cL @jn @c1 ⟨?_⟩
 refine zx au (alc X) ?_
 rw[ald]
 unfold ξ
 by_cases a:n<10
 ·have cH:decide ((n:Int)<10)=true:=by simp only[Zg];omega
  have bD:=zv n
  have cG:nu (.str [48,49,50,51,52,53,54,55,56,57,97,98,99,100,101,102,103,104,105,106,107,108,109,110,111,112,113,114,115,116,117,118,119,120,121,122]) (some (.Z (n:Int))) (some (.Z ((n+1:Nat):Int)))=some (.str (jV n)):=by
   rw[W3 .i64 .i64 Zo Zx,aBB n a]
  refine ed @cH @bD @cG ⟨?_⟩
  exact⟨rfl,rfl,rfl⟩
 ·have cH:decide ((n:Int)<10)=false:=by simp only[Zc];omega
  have bD:bl .mul (.Z (n:Int)) (.Z 2)=some (.Z ((n*2:Nat):Int)):=by rw[age Zo Zo];rfl
  have cG:bl .add (.Z ((n*2:Nat):Int)) (.Z 2)=some (.Z ((n*2+2:Nat):Int)):=by rw[eH Zo Zo];rfl
  have fV:nu (.str QT) (some (.Z ((n*2:Nat):Int))) (some (.Z ((n*2+2:Nat):Int)))=some (.str (jV n)):=by
   rw[W3 .i64 .i64 Zo (zq aBD),aBC n aF Zo]
  unfold QT at fV
  refine fW @cH @bD @cG @fV ⟨?_⟩
  exact⟨rfl,rfl,rfl⟩
def aA7(au:di X)(t:er)(aF:(o X).a6<=j):aW X 91 [.agg (eD t)] h j (λac S' am=>ac= .str (nW t)/\bf X h j S' am) (λ_ _ _=>False):=by
 refine zx au (anz X) ?_
 rw[anA]
 unfold abk
 have a8:eD t=[.bool t.b, .bool t.s, .Z t.w]:=rfl
 rw[a8]
 refine cI ⟨?_⟩
 refine eL (λaK=>U X aK j=zu [.bool t.b, .bool t.s, .Z t.w] 3/\bf X h j aK (j+1)) ⟨bb aF,dA⟩ ?_
 rintro aK ⟨bK,bH⟩
 refine(E7 au t Zo).Zm ?_
 rintro ac aJ aR ⟨rfl,bC⟩
 have fC:=bC.le
 have bT:=bH.trans bC
 have b1:U X aJ j=zu [.bool t.b, .bool t.s, .Z t.w] 3:=by rw[bC.aa _ Zo];exact bK
 have dH:aI X aJ (.ptr j 0)=some (.bool t.b):=by rw[bp b1];rfl
 have cX:aI X aJ (.ptr j 1)=some (.bool t.s):=by rw[bp b1];rfl
 have dI:aI X aJ (.ptr j 2)=some (.Z t.w):=by rw[bp b1];rfl
 cases bo:lb t with
 |false=>
  refine cI ⟨?_⟩
  exact⟨by simp[nW,bo],bT⟩
 |true=>
  cases kj:t.b with
  |true=>
   rw[kj]at dH
   refine ce @dH ⟨?_⟩
   exact⟨by simp[nW,bo,kj],bT⟩
  |false=>
   rw[kj]at dH
   have bw:1<=t.w/\t.w<=64:=by simpa[lb,kj]using bo
   obtain⟨w,Au⟩:=Yd (by omega:0<=t.w)
   rw[Au]at dI
   have aN:jV t.w.toNat=jV w:=by rw[Au];rfl
   have eT:(jV w).length<=2:=by unfold jV;split<;>simp
   have us:∀h c,dc X h .add 9 true (.str [c]) (.str (jV w))=some (.str (c::jV w)):=λh c=>by
    have:Nat.ble ([c].length+(jV w).length) 1000000000=true:=lr Zx
    simp only[dc,Bp,this,ff];rfl
   cases kB:t.s with
   |true=>
    rw[kB]at cX
    refine ed @dH @cX @dI ⟨?_⟩
    refine(PR au Zo).Zm ?_
    rintro ac a1 bn ⟨rfl,rfl,rfl⟩
    refine ce @us ⟨?_⟩
    exact⟨by simp[nW,bo,kj,kB,aN],bT⟩
   |false=>
    rw[kB]at cX
    refine ed @dH @cX @dI ⟨?_⟩
    refine(PR au Zo).Zm ?_
    rintro ac a1 bn ⟨rfl,rfl,rfl⟩
    refine ce @us ⟨?_⟩
    exact⟨by simp[nW,bo,kj,kB,aN],bT⟩
end
def LI{n:Nat}(a:n<100):jV n≠[]/\(jV n).length<19/\(∀c∈jV n,jh c=true)/\ya (jV n)=n:=by
 unfold jV
 split
 ·refine⟨Zs,Zs, ?_, ?_⟩
  ·intro c ax;simp at ax;subst ax;simp[jh];omega
  ·simp[ya]
 ·refine⟨Zs,Zs, ?_, ?_⟩
  ·intro c ax;simp at ax;rcases ax with rfl|rfl<;>simp[jh]<;>omega
  ·simp[ya];omega
def Q1(c:Nat)(k:aX):lJ (c::k)=if c::k=[98,111,111,108]then some ⟨true,false,1⟩
 else if c=105\/c=117 then((List.range 65).find? λn=>decide (1<=n)&&decide (jV n=k)).map λn:Nat=>⟨false,decide (c=105),(n:Int)⟩
 else none:=rfl
def MK{c:Nat}{k:aX}{t:er}(a:lJ (c::k)=some t)(ag:c::k≠[98,111,111,108]):(c=105\/c=117)/\∃n:Nat,1<=n/\n<=64/\jV n=k/\t=⟨false,decide (c=105),(n:Int)⟩:=by
 rw[Q1]at a
 rw[Zh ag]at a
 split at a
 ·rename_i ax
  refine⟨ax, ?_⟩
  simp only[Yg]at a
  obtain⟨n,J,Q⟩:=a
  have ak:=List.find?_some J
  have ay:=List.mem_of_find?_eq_some J
  simp at ak ay
  exact⟨n,ak.1,Zo,ak.2,Q.symm⟩
 ·cases a
def aiY{c:Nat}{k:aX}(a:lJ (c::k)=none)(ax:c=105\/c=117){n:Nat}(J:1<=n)(Q:n<=64):jV n≠k:=by
 intro aF
 rw[Q1]at a
 split at a
 ·cases a
 ·first
  |rw[Zp ax]at a
  |skip
  simp at a
  exact a n Zo J aF
def bf.set{C:aL}{h aK:R af}{j aM b aP:Nat}{cV:Option af}(a:bf C h j aK aM)(ag:j<=b)(aY:C.a6<=j)(aF:aM<=aP):bf C h j (bi C aK b cV) aP:=
 ⟨ZA a.le aF,λe B=>by rw[aC Zo Zo];exact a.aa e B⟩
section
variable{X:ch}{h S' aK aJ:R af}{j am aM aR gv:Nat}{s:aX}{i:Nat}
def aiX(au:i2 X)(bT:l6 X)(aD:s.length<=65536)(ag:∀c∈s,c<256)(uP:Do s)(aF:(o X).a6<=j):
 aW X 66 [.str s] h j (λac S' am=>ac= .tuple [.agg (eD ((lJ s).getD dQ)), .bool (lJ s).isSome]/\bf X h j S' am) (λ_ _ _=>False):=by
 refine zx au.todi (amL X) ?_
 rw[amM]
 unfold aaQ
 by_cases xr:s=[98,111,111,108]
 ·have d:decide (s=[98,111,111,108])=true:=by simp[xr]
  refine ce @d ⟨?_⟩
  exact⟨by subst xr;rfl,dA⟩
 have d:decide (s=[98,111,111,108])=false:=by simp[xr]
 cases s with
 |nil=>
  have cH:decide (([]:List Nat)=[])=true:=rfl
  refine cL @d @cH ⟨?_⟩
  exact⟨rfl,dA⟩
 |cons c k=>
  have cH:decide (c::k=[])=false:=by simp
  have dw:ov (.str (c::k)) (.Z 0)=some (.int .u8 (c:Int)):=Cp (i:=0) .i64 rfl
  by_cases ax:c=105\/c=117
  ·have hJ:nu (.str (c::k)) (some (.Z 1)) none=some (.str k):=QR (k:=1) .i64 Zs
   have eT:k.length<=65536:=by simp at aD;omega
   have vX:∀c∈k,c<256:=λx ae=>ag x (Zu _ ae)
   have auF:Do k:=λx ae=>uP x (Zu _ ae)
   have eY:∃bZ cu,decide ((c:Int)≠117)=bZ/\decide ((c:Int)≠105)=cu/\(bZ=false\/bZ=true/\cu=false):=by
    rcases ax with rfl|rfl
    ·exact⟨true,false,rfl,rfl, .inr ⟨rfl,rfl⟩⟩
    ·exact⟨false,true,rfl,rfl, .inl rfl⟩
   obtain⟨bZ,cu,eY,ja,vJ⟩:=eY
   have gs:decide ((c:Int)=105)=decide (c=105):=by simp;omega
   rcases vJ with rfl|⟨rfl,rfl⟩
   all_goals
    refine ih @d @cH @dw @eY @ja @hJ ⟨?_⟩
    refine eL (λaK=>U X aK j=zu [.zF, .zF, .Z 0] 3/\bf X h j aK (j+1)) ⟨bb aF,dA⟩ ?_
    rintro aK ⟨bK,bH⟩
    refine(abW au bT eT vX auF Zo).Zm ?_
    rintro ac aJ aR ⟨⟨bu,E,rfl,bz,ae⟩,bC⟩
    have fC:=bC.le
    have b1:U X aJ j=zu [.zF, .zF, .Z 0] 3:=by rw[bC.aa _ Zo];exact bK
    have hp:=bH.trans bC
    refine cL @dw @gs ⟨?_⟩
    generalize e0:bi X _ aR _=a1
    have cM:U X a1 j=zu [.zF, .zF, .Z 0] 3:=by rw[<-e0];simp(disch:=omega) only[aC];exact b1
    have dF:U X a1 aR=zu [.zF, .bool (decide (c=105)), .Z bu] 3:=by rw[<-e0];rw[bb Zo];rfl
    have ck:bf X h j a1 (aR+1):=hp.trans (by rw[<-e0];exact dA)
    clear e0
    rcases bz with rfl|⟨b,rfl⟩
    ·refine cL @Fa (bp dF) ⟨?_⟩
     refine(E7 (j:=aR+1) (h:=a1) au.todi ⟨false,decide (c=105),bu⟩ (ZA aF ck.le)).Zm ?_
     rintro ac bA cv ⟨rfl,cW⟩
     have iG:=cW.le
     have fj:U X bA j=zu [.zF, .zF, .Z 0] 3:=by rw[cW.aa _ Zo];exact cM
     have d0:U X bA aR=zu [.zF, .bool (decide (c=105)), .Z bu] 3:=by rw[cW.aa _ Zo];exact dF
     cases bo:lb ⟨false,decide (c=105),bu⟩with
     |false=>
      have a8:lJ (c::k)=none:=by
       cases a8:lJ (c::k)with
       |none=>rfl
       |some t=>
        obtain⟨_,n,J,Q,ak,rfl⟩:=MK a8 xr
        obtain⟨cN,cB,ea,fQ⟩:=LI (by omega:n<100)
        rw[ak]at cN cB ea fQ
        have:=(ae cN cB ea).2
        rw[fQ]at this
        subst this
        simp[lb]at bo
        omega
      rw[a8]
      refine ce (bp fj) ⟨?_⟩
      exact⟨rfl,bf.set (ck.trans cW) Zo aF Zo⟩
     |true=>
      have cm:1<=bu/\bu<=64:=by simpa[lb]using bo
      obtain⟨n,rfl⟩:=Yd (by omega:0<=bu)
      refine ce (bp d0) ⟨?_⟩
      refine(aA7 (j:=cv) (h:=bA) au.todi ⟨false,decide (c=105),(n:Int)⟩ Zo).Zm ?_
      rintro ac bN cf ⟨rfl,dR⟩
      have iH:=dR.le
      have ek:U X bN j=zu [.zF, .zF, .Z 0] 3:=by rw[dR.aa _ Zo];exact fj
      have fN:U X bN aR=zu [.zF, .bool (decide (c=105)), .Z (n:Int)] 3:=by rw[dR.aa _ Zo];exact d0
      have Ez:nW ⟨false,decide (c=105),(n:Int)⟩=c::jV n:=by
       rcases ax with rfl|rfl<;>simp[nW,bo]<;>simp_all
      have Ko:=(ck.trans cW).trans dR
      by_cases az:jV n=k
      ·have a8:lJ (c::k)=some ⟨false,decide (c=105),(n:Int)⟩:=by
        cases a8:lJ (c::k)with
        |none=>exact absurd az (aiY a8 ax Zo Zo)
        |some t=>
         obtain⟨_,aP,J,Q,ak,rfl⟩:=MK a8 xr
         obtain⟨cN,cB,ea,fQ⟩:=LI (by omega:n<100)
         obtain⟨_,_,_,mU⟩:=LI (by omega:aP<100)
         rw[ak, <-az,fQ]at mU
         rw[mU]
       have hF:decide (nW ⟨false,decide (c=105),(n:Int)⟩≠c::k)=false:=by rw[Ez,az];simp
       rw[a8]
       refine cL @hF (bp fN) ⟨?_⟩
       refine⟨rfl,bf.set Ko Zo aF Zo⟩
      ·have a8:lJ (c::k)=none:=by
        cases a8:lJ (c::k)with
        |none=>rfl
        |some t=>
         obtain⟨_,aP,J,Q,ak,rfl⟩:=MK a8 xr
         obtain⟨cN,cB,ea,fQ⟩:=LI (by omega:aP<100)
         rw[ak]at cN cB ea fQ
         have:=(ae cN cB ea).2
         rw[fQ]at this
         have:n=aP:=Zo
         subst this
         exact absurd ak az
       have hF:decide (nW ⟨false,decide (c=105),(n:Int)⟩≠c::k)=true:=by rw[Ez];simp[az]
       rw[a8]
       refine ce @hF ⟨?_⟩
       exact⟨rfl,bf.set Ko Zo aF Zo⟩
    ·have a8:lJ (c::k)=none:=by
      cases a8:lJ (c::k)with
      |none=>rfl
      |some t=>
       obtain⟨_,n,J,Q,ak,rfl⟩:=MK a8 xr
       obtain⟨cN,cB,ea,fQ⟩:=LI (by omega:n<100)
       rw[ak]at cN cB ea fQ
       exact absurd (ae cN cB ea).1 Zs
     rw[a8]
     refine ce @aho ⟨?_⟩
     exact⟨rfl,bf.set ck Zo aF Zo⟩
  ·have eY:decide ((c:Int)≠117)=true:=by simp only[Zg];omega
   have ja:decide ((c:Int)≠105)=true:=by simp only[Zg];omega
   refine gb @d @cH @dw @eY @ja ⟨?_⟩
   have a8:lJ (c::k)=none:=by rw[Q1];rw[Zh xr,Zh ax]
   rw[a8]
   exact⟨rfl,dA⟩
end
def CR(w:Int):Int:=(18446744073709551615:Int).fdiv (2^(min (64-w).toNat 64))
def JB(x e:Int):Int:=oJ .u64 ((BitVec.ofInt 64 x&&& ~~~ BitVec.ofInt 64 e).toNat)
def EN(t:er)(n:Int):Bool:=lb t&&decide (JB n (CR t.w)=0)
def v8(t:er)(n:Int):Bool:=if t.s then(if t.w-1=0 then decide (n=0)else EN ⟨false,false,t.w-1⟩ n)else EN t n
def wu:List aX:=[[110,111,100,101],[114,101,116,117,114,110,115],[118,97,114],[108,101,116],[116,101,108],[119,104,101,110],[110,111,116],[112,114,101],[102,98,121],[109,101,114,103,101],
 [105,102],[116,104,101,110],[101,108,115,101],[97,110,100],[111,114],[120,111,114],[116,114,117,101],[102,97,108,115,101]]
structure Na(X:ch):Prop where
 at_:∃v,∀h,aI X h (.ptr 1 0)=some v/\∀s:aX,mN X h 9 .zF v (.str s) false=some (.bool (decide (s∈wu)))
section
variable{X:ch}{h S' aK aJ:R af}{j am aM aR gv:Nat}{s:aX}{i:Nat}
def aAA(au:di X)(d7:Na X)(s:aX):aW X 68 [.str s] h j (λac S' am=>ac= .bool (decide (s∈wu))/\S'=h/\am=j) (λ_ _ _=>False):=by
 refine zx au (amP X) ?_
 rw[amQ]
 unfold aaS
 obtain⟨v,bv⟩:=d7.at_
 obtain⟨J,Q⟩:=bv h
 have ak:=Q s
 refine cL @J @ak ⟨?_⟩
 exact⟨rfl,rfl,rfl⟩
def azi(au:di X)(t:er)(a8:1<=t.w/\t.w<=64)(aF:(o X).a6<=j):aW X 117 [.agg (eD t)] h j (λac S' am=>ac= .int .u64 (CR t.w)/\bf X h j S' am) (λ_ _ _=>False):=by
 refine zx au (akm X) ?_
 rw[akn]
 unfold XW eD
 have bD:bl .sub (.Z 64) (.Z t.w)=some (.Z (64-t.w)):=uV Zo Zo
 have cG:bl .shr (.int .u64 18446744073709551615) (.Z (64-t.w))=some (.int .u64 (CR t.w)):=by
  have:decide ((64-t.w)<0)=false:=by simp only[Zc];omega
  simp only[bl,l0,ff,Jz,uX,this,ls,qH,G1]
  rfl
 refine cL @bD @cG ⟨?_⟩
 exact⟨rfl,dA⟩
def Qc{t:er}(a:lb t=true):1<=t.w/\t.w<=64:=by
 unfold lb at a
 split at a<;>simp at a<;>omega
def agm(au:di X)(t:er)(n:Int)(aF:(o X).a6<=j):aW X 92 [.agg (eD t), .int .u64 n] h j (λac S' am=>ac= .bool (EN t n)/\bf X h j S' am) (λ_ _ _=>False):=by
 refine zx au (anB X) ?_
 rw[anC]
 unfold abl
 have a8:eD t=[.bool t.b, .bool t.s, .Z t.w]:=rfl
 rw[a8]
 refine cI ⟨?_⟩
 refine eL (λaK=>U X aK j=zu [.bool t.b, .bool t.s, .Z t.w] 3/\bf X h j aK (j+1)) ⟨bb aF,dA⟩ ?_
 rintro aK ⟨bK,bH⟩
 refine(E7 au t Zo).Zm ?_
 rintro ac aJ aR ⟨rfl,bC⟩
 have fC:=bC.le
 have bT:=bH.trans bC
 have b1:U X aJ j=zu [.bool t.b, .bool t.s, .Z t.w] 3:=by rw[bC.aa _ Zo];exact bK
 cases bo:lb t with
 |false=>
  refine cI ⟨?_⟩
  exact⟨by simp[EN,bo],bT⟩
 |true=>
  refine ce (bp b1) ⟨?_⟩
  refine(azi (j:=aR) (h:=aJ) au t (Qc bo) Zo).Zm ?_
  rintro ac a1 bn ⟨rfl,ck⟩
  have bD:bl .andNot (.int .u64 n) (.int .u64 (CR t.w))=some (.int .u64 (JB n (CR t.w))):=by
   simp only[bl,l0,ls,mr,ff,lQ,k9,G1];rfl
  refine ce @bD ⟨?_⟩
  exact⟨by simp[EN,bo],bT.trans ck⟩
def au0(au:di X)(t:er)(a8:lb t=true)(n:Int)(aF:(o X).a6<=j):aW X 67 [.agg (eD t), .int .u64 n] h j (λac S' am=>ac= .bool (v8 t n)/\bf X h j S' am) (λ_ _ _=>False):=by
 refine zx au (amN X) ?_
 rw[amO]
 unfold aaR
 have bw:=Qc a8
 have gU:eD t=[.bool t.b, .bool t.s, .Z t.w]:=rfl
 rw[gU]
 have bD:bl .sub (.Z t.w) (.Z 1)=some (.Z (t.w-1)):=uV Zo Zo
 cases kB:t.s with
 |false=>
  refine cI ⟨?_⟩
  refine eL (λaK=>bf X h j aK (j+1)) dA ?_
  intro aK bH
  have:=agm (j:=j+1) (h:=aK) au t n Zo
  rw[gU,kB]at this
  refine this.Zm ?_
  rintro ac aJ aR ⟨rfl,bC⟩
  refine cI ⟨?_⟩
  exact⟨by simp[v8,kB],bH.trans bC⟩
 |true=>
  by_cases aY:t.w-1=0
  ·have d:decide (t.w-1=0)=true:=by simp[aY]
   refine cL @bD @d ⟨?_⟩
   refine f7 (iJ (y:=3) (b:=j) (V:=0) (n:=3) (c:=R.ofList [.bool t.b, .zT, .Z t.w] 0 .nil) (bb aF) Zo rfl Zd Zd rfl) ?_
   refine ce @d ⟨?_⟩
   exact⟨by simp[v8,kB,aY],dA⟩
  ·have d:decide (t.w-1=0)=false:=by simp[aY]
   refine cL @bD @d ⟨?_⟩
   refine f7 (iJ (y:=3) (b:=j) (V:=0) (n:=3) (c:=R.ofList [.bool t.b, .zT, .Z t.w] 0 .nil) (bb aF) Zo rfl Zd Zd rfl) ?_
   refine ce @d ⟨?_⟩
   refine eL (λaK=>bf X h j aK (j+1)) dA ?_
   intro aK bH
   refine(agm (j:=j+1) (h:=aK) au ⟨false,false,t.w-1⟩ n Zo).Zm ?_
   rintro ac aJ aR ⟨rfl,bC⟩
   refine cI ⟨?_⟩
   exact⟨by simp[v8,kB,aY],bH.trans bC⟩
end
def u0(s:aX)(i:Nat):Tok×Bool:=
 let w:=(s.drop i).takeWhile jr
 (⟨if (lJ w).isSome then 3 else if w∈wu then 2 else 1,w,0,0,(lJ w).getD dQ⟩,decide (w.length<=32))
def ahz{k:aX}(a:∀c∈k,jr c=true):Do k:=by
 intro c ax
 have:=a c ax
 simp[jr,rx,jh]at this
 omega
def aiQ{α:Type}(p:α->Bool):∀k:List α,∀c∈k.takeWhile p,p c=true:=by
 intro k
 induction k with
 |nil=>simp
 |cons F k ai=>
  intro c ax
  rw[YA]at ax
  split at ax
  ·rcases Zt.1 ax with rfl|ax
   ·assumption
   ·exact ai c ax
  ·simp at ax
section
variable{X:ch}{h S' aK aJ:R af}{j am aM aR gv:Nat}{s:aX}{i:Nat}
def Wi(Y:nB X h gv s i)(ag:∀c∈s,c<256)(T:Nat)(p:Nat->Bool)(aw:∀c,p c=true->jr c=true):((s.drop T).takeWhile p).length<=65536/\(∀c∈(s.drop T).takeWhile p,c<256)/\Do ((s.drop T).takeWhile p):=by
 have J:=FO p (s.drop T)
 rw[Yp]at J
 have:=Y.many
 refine⟨Zo,λc ax=>ag c (Y8 ((List.takeWhile_sublist p).subset ax)),ahz λc ax=>aw c (aiQ p _ c ax)⟩
def aDd(au:i2 X)(bT:l6 X)(d7:Na X)(Y:nB X h gv s i)(ag:∀c∈s,c<256)(aF:(o X).a6<=j)(Ll:gv<j):
 aW X 43 [.ptr gv 0] h j (λac S' am=>ac= .tuple [.agg (cd (u0 s i).1), .bool (u0 s i).2]/\bf X h j S' am) (λ_ _ _=>False):=by
 refine zx au.todi (al1 X) ?_
 rw[al2]
 unfold aaq
 have cX:=Y.cX
 have ir:=Y.b7
 obtain⟨cN,cB,ea⟩:=Wi Y ag i jr (λ_ a=>a)
 have nJ:∀cV,nB X (bi X h j cV) gv s i:=λcV=>Y.aa (aC aF Zo)
 refine ce @cX ⟨?_⟩
 refine(QM au.todi (aip au.todi) (nJ _) Y.le).Zm ?_
 rintro ac aJ aR ⟨rfl,rfl,rfl⟩
 unfold u0
 generalize (s.drop i).takeWhile jr=w at*
 simp only[]
 refine cI ⟨?_⟩
 refine eL (λaK=>U X aK j=zu [.Z 0, .str [], .Z 0, .int .u64 0, .zF, .zF, .Z 0] 7/\U X aK (j+1)=zu [.Z 1, .str w, .Z 0, .int .u64 0, .zF, .zF, .Z 0] 7/\bf X h j aK (j+1+1)) ⟨by simp(disch:=omega) only[aC,bb]<;>rfl,by rw[bb Zo];rfl,dA⟩ ?_
 rintro aK ⟨bK,b1,bH⟩
 refine(aiX au bT cN cB ea Zo).Zm ?_
 rintro ac a1 bn ⟨rfl,ck⟩
 have jf:=ck.le
 have pK:=bH.trans ck
 have cM:U X a1 j=zu [.Z 0, .str [], .Z 0, .int .u64 0, .zF, .zF, .Z 0] 7:=by rw[ck.aa _ Zo];exact bK
 have dF:U X a1 (j+1)=zu [.Z 1, .str w, .Z 0, .int .u64 0, .zF, .zF, .Z 0] 7:=by rw[ck.aa _ Zo];exact b1
 generalize a8:(lJ w).getD dQ=t
 have uQ:eD t=[.bool t.b, .bool t.s, .Z t.w]:=rfl
 rw[uQ]
 have yH:decide ((w.length:Int)<=32)=decide (w.length<=32):=by simp;omega
 have fin:∀(bY:R af) (dv:Nat) (y:Int) (hh:er) (vq:R D),bn<=dv->bf X h j bY dv->U X bY (j+1)=some (.cells vq 7 .own)->U X bY j=zu [.Z 0, .str [], .Z 0, .int .u64 0, .zF, .zF, .Z 0] 7->
  vq.get 0=some (.Z y)->vq.get 1=some (.str w)->vq.get 2=some (.Z 0)->vq.get 3=some (.int .u64 0)->vq.get 4=some (.bool hh.b)->vq.get 5=some (.bool hh.s)->vq.get 6=some (.Z hh.w)->
  ar (cZ X bY 7 (.ptr (j+1) 0)) λaCL=>ar (np (.str w)) λaCM=>ar (bl .leq aCM (.Z 32)) λaCN=>ar (gg X bY 7 (.ptr j 0) aCL) λabw=>ar (cZ X abw 7 (.ptr j 0)) λv37=>
   D.tuple [v37,aCN]= .tuple [.agg (cd ⟨y,w,0,0,hh⟩), .bool (decide (w.length<=32))]/\bf X h j abw dv:=by
  intro bY dv y hh vq aEC ej d0 ek wd bW cq cS d1 dY dk
  have eZ:=kl d0 wd;have c7:=kl d0 bW;have cr:=kl d0 cq;have dZ:=kl d0 cS;have f6:=kl d0 d1;have fZ:=kl d0 dY;have l2:=kl d0 dk
  refine et @eZ @c7 @cr @dZ @f6 @fZ (Za @l2 @yH) ⟨?_⟩
  exact⟨rfl,bf.set ej (Zj _) aF (Zj _)⟩
 cases tx:(lJ w).isSome with
 |true=>
  refine hw ⟨?_⟩
  refine hw ⟨?_⟩
  refine hw ⟨?_⟩
  refine hw ⟨?_⟩
  refine hw ⟨?_⟩
  generalize e1:bi X _ bn _=bA
  have fj:U X bA bn=zu [.bool t.b, .bool t.s, .Z t.w] 3:=by rw[<-e1,bb Zo];rfl
  have d0:U X bA j=zu [.Z 0, .str [], .Z 0, .int .u64 0, .zF, .zF, .Z 0] 7:=by rw[<-e1];simp(disch:=omega) only[aC];exact cM
  have ek:U X bA (j+1)=zu [.Z 1, .str w, .Z 0, .int .u64 0, .zF, .zF, .Z 0] 7:=by rw[<-e1];simp(disch:=omega) only[aC];exact dF
  have cW:bf X h j bA (bn+1):=pK.trans (by rw[<-e1];exact dA)
  clear e1 cM dF
  refine ce (bp fj) ⟨?_⟩
  refine gp (by simp[D.same,nO,pk]) ?_
  generalize iD:bi X bA (j+1) _=bN
  have bt:∀e,e≠j+1->U X bN e=U X bA e:=λe B=>by rw[<-iD,aC Zo B]
  have fN:U X bN (j+1)=some (.cells (dT (R.ofList [.Z 1, .str w, .Z 0, .int .u64 0, .zF, .zF, .Z 0] 0 .nil) 0 [.Z 3]) 7 .own):=by rw[<-iD,bb Zo];rfl
  rw[<-bt _ Zo]at fj d0
  have dR:bf X h j bN (bn+1):=⟨cW.le,λe B=>by rw[bt e Zo];exact cW.aa e B⟩
  clear iD bt ek
  refine f7 (iJ (y:=3) (b:=j+1) (V:=4) (n:=7) fN Zo rfl Zd Zd rfl) ?_
  generalize gN:bi X bN (j+1) _=bY
  have b4:∀e,e≠j+1->U X bY e=U X bN e:=λe B=>by rw[<-gN,aC Zo B]
  have na:U X bY (j+1)=some (.cells (dT (dT (R.ofList [.Z 1, .str w, .Z 0, .int .u64 0, .zF, .zF, .Z 0] 0 .nil) 0 [.Z 3]) 4 [.bool t.b, .bool t.s, .Z t.w]) 7 .own):=by rw[<-gN,bb Zo];rfl
  rw[<-b4 _ Zo]at d0
  have ej:bf X h j bY (bn+1+5):=⟨zq dR.le,λe B=>by rw[b4 e Zo];exact dR.aa e B⟩
  clear gN b4 fN
  have:=fin bY (bn+1+5) 3 t _ Zo ej na d0 rfl rfl rfl rfl rfl rfl rfl
  simp only[ZE]
  refine hw ⟨?_⟩
  exact this
 |false=>
  have Vg:t=dQ:=by
   rw[<-a8]
   cases b3:lJ w with
   |none=>rfl
   |some t=>rw[b3]at tx;cases tx
  refine cI ⟨?_⟩
  refine eL (λbA=>bf X a1 bn bA (bn+1)) dA ?_
  intro bA cW
  have yY:=pK.trans cW
  have d0:U X bA j=zu [.Z 0, .str [], .Z 0, .int .u64 0, .zF, .zF, .Z 0] 7:=by rw[cW.aa _ Zo];exact cM
  have ek:U X bA (j+1)=zu [.Z 1, .str w, .Z 0, .int .u64 0, .zF, .zF, .Z 0] 7:=by rw[cW.aa _ Zo];exact dF
  refine(aAA (j:=bn+1) (h:=bA) au.todi d7 w).Zm ?_
  rintro ac bN cf ⟨rfl,rfl,rfl⟩
  subst Vg
  simp only[Zy,ZC]
  by_cases kP:w∈wu
  ·simp only[kP,YB,ZE]
   refine hw ⟨?_⟩
   refine hw ⟨?_⟩
   refine hw ⟨?_⟩
   refine f7 (iJ (y:=1) (b:=j+1) (V:=0) (n:=7) ek Zo rfl Zd Zd rfl) ?_
   generalize gN:bi X _ (j+1) _=bY
   have b4:∀e,e≠j+1->U X bY e=U X bN e:=λe B=>by rw[<-gN,aC Zo B]
   have na:U X bY (j+1)=some (.cells (dT (R.ofList [.Z 1, .str w, .Z 0, .int .u64 0, .zF, .zF, .Z 0] 0 .nil) 0 [.Z 2]) 7 .own):=by rw[<-gN,bb Zo];rfl
   rw[<-b4 _ Zo]at d0
   have ej:bf X h j bY (bn+1):=⟨yY.le,λe B=>by rw[b4 e Zo];exact yY.aa e B⟩
   have:=fin bY (bn+1) 2 dQ _ Zo ej na d0 rfl rfl rfl rfl rfl rfl rfl
   refine hw ⟨?_⟩
   exact this
  ·simp only[kP,Yl,ZC]
   have:=fin bN (bn+1) 1 dQ _ Zo yY ek d0 rfl rfl rfl rfl rfl rfl rfl
   refine hw ⟨?_⟩
   refine hw ⟨?_⟩
   refine hw ⟨?_⟩
   exact this
end
def Fi(s:aX)(i:Nat):Option Tok:=
 let d:=(s.drop i).takeWhile jh
 if (kV d).2≠0\/20<d.length then none
 else
  let WW:=(s.drop (i+d.length)).takeWhile jr
  if WW=[]then some ⟨4,d,0,(kV d).1,dQ⟩
  else match lJ WW with
   |some t=>if !t.b&&v8 t (kV d).1 then some ⟨5,d++WW,0,(kV d).1,t⟩else none
   |none=>none
def Xi:∀{w:aX}{t:er},lJ w=some t->lb t=true:=by
 intro w t a
 cases w with
 |nil=>cases a
 |cons c k=>
  by_cases ag:c::k=[98,111,111,108]
  ·rw[Q1,Zp ag]at a
   cases a
   rfl
  ·obtain⟨_,n,J,Q,_,rfl⟩:=MK a ag
   simp[lb];omega
section
variable{X:ch}{h S' aK aJ:R af}{j am aM aR gv:Nat}{s:aX}{i:Nat}
def ayW(au:i2 X)(bT:l6 X)(Y:nB X h gv s i)(ag:∀c∈s,c<256)(aF:(o X).a6<=j)(Ll:gv<j):
 aW X 41 [.ptr gv 0] h j (λac S' am=>(∃y,ac= .tuple [.agg (cd y), .bool (Fi s i).isSome]/\∀x,Fi s i=some x->y=x)/\bf X h j S' am) (λ_ _ _=>False):=by
 refine zx au.todi (alX X) ?_
 rw[alY]
 unfold aao
 have cX:=Y.cX
 have ir:=Y.b7
 have k6:=Y.le
 have aEW:=Y.many
 obtain⟨cN,cB,ea⟩:=Wi Y ag i jh (λc a=>by simp[jr,a])
 have tX:=FO jh (s.drop i)
 rw[Yp]at tX
 have nJ:∀cV,nB X (bi X h j cV) gv s i:=λcV=>Y.aa (aC aF Zo)
 refine ce @cX ⟨?_⟩
 refine(QM au.todi (aAN au.todi) (nJ _) Y.le).Zm ?_
 rintro ac aJ aR ⟨rfl,rfl,rfl⟩
 generalize jF:Fi s i=N
 unfold Fi at jF
 simp only[]at jF
 generalize (s.drop i).takeWhile jh=d at*
 refine cI ⟨?_⟩
 refine eL (λaK=>U X aK j=zu [.Z 0, .str [], .Z 0, .int .u64 0, .zF, .zF, .Z 0] 7/\bf X h j aK (j+1)) ⟨by simp(disch:=omega) only[aC,bb]<;>rfl,dA⟩ ?_
 rintro aK ⟨bK,bH⟩
 refine(azG au bT cN cB Zo).Zm ?_
 rintro ac a1 bn ⟨⟨E,rfl,bz⟩,ck⟩
 have jf:=ck.le
 have pK:=bH.trans ck
 have cM:U X a1 j=zu [.Z 0, .str [], .Z 0, .int .u64 0, .zF, .zF, .Z 0] 7:=by rw[ck.aa _ Zo];exact bK
 have Al:=Y.aa (pK.aa gv Ll)
 have aFD:D.agg [.Z 0, .str [], .Z 0, .int .u64 0, .zF, .zF, .Z 0]= .agg (cd hi):=rfl
 rcases bz with ⟨aY,rfl⟩|⟨aY,b,rfl⟩
 ·by_cases eT:20<d.length
  ·rw[Zp (.inr eT)]at jF
   subst jF
   have c1:decide ((20:Int)<(d.length:Int))=true:=by simp only[Zg];omega
   refine cL @Fa @c1 ⟨?_⟩
   exact⟨⟨hi,rfl,λx a=>by cases a⟩,bf.set pK Zo aF Zo⟩
  have c1:decide ((20:Int)<(d.length:Int))=false:=by simp only[Zc];omega
  rw[Zh (by rintro(a|a);exact a aY;exact eT a)]at jF
  have gZ:=Al.cX
  have bD:bl .add (.Z (i:Int)) (.Z (d.length:Int))=some (.Z ((i+d.length:Nat):Int)):=by rw[eH Zo Zo];rfl
  refine fW @Fa @c1 @gZ @bD ⟨?_⟩
  refine(QM au.todi (aip au.todi) Al Zo).Zm ?_
  rintro ac bA cv ⟨rfl,rfl,rfl⟩
  obtain⟨fK,hX,xU⟩:=Wi Al ag (i+d.length) jr (λ_ a=>a)
  generalize (s.drop (i+d.length)).takeWhile jr=w at*
  by_cases bw:w=[]
  ·have cH:decide (w=[])=true:=by simp[bw]
   rw[Zp bw]at jF
   subst jF
   refine ce @cH ⟨?_⟩
   exact⟨⟨⟨4,d,0,(kV d).1,dQ⟩,rfl,λx a=>by cases a;rfl⟩,bf.set pK Zo aF Zo⟩
  have cH:decide (w=[])=false:=by simp[bw]
  rw[Zh bw]at jF
  refine ce @cH ⟨?_⟩
  refine(aiX au bT fK hX xU Zo).Zm ?_
  rintro ac bN cf ⟨rfl,dR⟩
  have iH:=dR.le
  have fj:U X bN j=zu [.Z 0, .str [], .Z 0, .int .u64 0, .zF, .zF, .Z 0] 7:=by rw[dR.aa _ Zo];exact cM
  have D6:=pK.trans dR
  generalize a8:(lJ w).getD dQ=t
  have uQ:eD t=[.bool t.b, .bool t.s, .Z t.w]:=rfl
  rw[uQ]
  refine hw ⟨?_⟩
  refine hw ⟨?_⟩
  refine hw ⟨?_⟩
  refine hw ⟨?_⟩
  refine hw ⟨?_⟩
  generalize gN:bi X _ cf _=bY
  have d0:U X bY cf=zu [.bool t.b, .bool t.s, .Z t.w] 3:=by rw[<-gN,bb Zo];rfl
  have ek:U X bY j=zu [.Z 0, .str [], .Z 0, .int .u64 0, .zF, .zF, .Z 0] 7:=by rw[<-gN];simp(disch:=omega) only[aC];exact fj
  have ej:bf X h j bY (cf+1):=D6.trans (by rw[<-gN];exact dA)
  clear gN fj cM bK
  have us:∀h,dc X h .add 9 false (.str d) (.str w)=some (.str (d++w)):=λh=>by
   have:Nat.ble (d.length+w.length) 1000000000=true:=lr Zo
   simp only[dc,Bp,this,ff]
  have W6:∀ah:Prop,ah->gn (.str (d++w)) (some (.str (d++w))) ah:=λah a=>gp (by simp[D.same,AH]) a
  have Mz:∀ah:Prop,ah->gn (.agg [.bool t.b, .bool t.s, .Z t.w]) (some (.agg [.bool t.b, .bool t.s, .Z t.w])) ah:=λah a=>gp (by simp[D.same,nO,pk]) a
  have fb:cd ⟨5,d++w,0,(kV d).1,t⟩=[.Z 5, .str (d++w), .Z 0, .int .u64 (kV d).1, .bool t.b, .bool t.s, .Z t.w]:=rfl
  cases tx:lJ w with
  |none=>
   rw[tx]at jF
   simp only[]at jF
   subst jF
   simp only[ZZ]
   refine cL @us (bp d0) ⟨?_⟩
   refine W6 _ ?_
   refine cL @us (bp d0) ⟨?_⟩
   refine Mz _ ?_
   refine cI ⟨?_⟩
   refine⟨⟨⟨5,d++w,0,(kV d).1,t⟩, ?_,λx a=>by cases a⟩,bf.set ej Zo aF Zo⟩
   rw[fb]
  |some hh=>
   have PJ:hh=t:=by rw[tx]at a8;exact a8
   subst PJ
   have auJ:=Xi tx
   rw[tx]at jF
   simp only[]at jF
   cases kj:hh.b with
   |true=>
    rw[kj]at jF d0 fb Mz
    simp only[Ys,Bool.false_and,Zy,ZC]at jF
    subst jF
    simp only[ZZ,Z4]
    refine cL @us (bp d0) ⟨?_⟩
    refine W6 _ ?_
    refine cL @us (bp d0) ⟨?_⟩
    refine Mz _ ?_
    refine cI ⟨?_⟩
    refine⟨⟨⟨5,d++w,0,(kV d).1,hh⟩, ?_,λx a=>by cases a⟩,bf.set ej Zo aF Zo⟩
    rw[fb]
   |false=>
    rw[kj]at jF d0 fb Mz
    simp only[Yt,Bool.true_and]at jF
    simp only[Z4]
    refine cL @us (bp d0) ⟨?_⟩
    have ax:=au0 (j:=cf+1+19) (h:=bY) au.todi hh auJ ((kV d).1:Int) Zo
    have Vh:eD hh=[.zF, .bool hh.s, .Z hh.w]:=by unfold eD;rw[kj]
    rw[Vh]at ax
    refine ax.Zm ?_
    rintro ac cn d8 ⟨rfl,eA⟩
    have ng:=eA.le
    have fN:U X cn cf=zu [.zF, .bool hh.s, .Z hh.w] 3:=by rw[eA.aa _ Zo];exact d0
    have na:U X cn j=zu [.Z 0, .str [], .Z 0, .int .u64 0, .zF, .zF, .Z 0] 7:=by rw[eA.aa _ Zo];exact ek
    have Ov:bf X h j cn d8:=⟨zq ej.le,λe B=>by rw[eA.aa e (zq ej.le)];exact ej.aa e B⟩
    have ata:N.isSome=v8 hh ((kV d).1:Int):=by
     rw[<-jF];cases v8 hh ((kV d).1:Int)<;>rfl
    rw[ata]
    refine ce @us ⟨?_⟩
    refine W6 _ ?_
    refine ce (bp fN) ⟨?_⟩
    refine Mz _ ?_
    refine cI ⟨?_⟩
    refine⟨⟨⟨5,d++w,0,(kV d).1,hh⟩, ?_,λx a=> ?_⟩,bf.set Ov Zo aF Zo⟩
    ·rw[fb]
    ·rw[<-jF]at a
     split at a
     ·cases a;rfl
     ·cases a
 ·rw[Zp (.inl aY)]at jF
  subst jF
  refine ce @aho ⟨?_⟩
  exact⟨⟨hi,rfl,λx a=>by cases a⟩,bf.set pK Zo aF Zo⟩
end
end
end Go.Proofs.YtpeabpmnlmaabaaGreatDoor

