/- Part of the proof of the last text; no conditions -/
import Derived.Test.YtpeabpmnlmaabaaGreatDoorYh
set_option maxHeartbeats 8000000
set_option linter.all false
namespace Go.Proofs.YtpeabpmnlmaabaaGreatDoor
open Go.bg Go.aL
noncomputable section
def L4(c:Nat):Bool:=decide (c=32)||decide (c=9)||decide (c=10)||decide (c=13)
structure jd(X:ca):Prop extends dk X where
 idx:∀c:Nat,c<256->∃bE:Int,X.O 108 [.str [32,9,10,13], .int .u8 (c:Int)]=some (.Z bE)/\(0<=bE↔L4 c=true)
 clone:∀s:aR,(∀c∈s,c<256)->s.length<=65536->X.O 129 [.str s]=some (.str s)
def o3(s:aR):Nat->Nat->Nat
 |0,i=>i
 |n+1,i=>match s[i]? with
  |none=>i
  |some c=>if L4 c then o3 s n (i+1)
   else if 2<=(s.drop i).length/\(s.drop i).take 2=[45,45]then o3 s n (i+((s.drop i).takeWhile λc=>decide (c≠10)).length)else i
def Gj{α:Type}(p:α->Bool):∀k:List α,(k.takeWhile p).length<=k.length:=by
 intro k
 induction k with
 |nil=>simp
 |cons F k ah=>rw[YD];split<;>simp<;>omega
section
variable{X:ca}{h R aQ aP:S ag}{j an aV aX gw:Nat}{s:aR}{i:Nat}
def axT(aw:jd X){c:Nat}(aA:c<256):a2 X 60 [.str [32,9,10,13], .int .u8 (c:Int)] h j (λac R an=>(∃bE:Int,ac= .Z bE/\(0<=bE↔L4 c=true))/\R=h/\an=j) zL:=by
 refine zG aw.todk (anw X) ?_
 rw[anx]
 unfold aa8
 refine zG aw.todk (aoh X) ?_
 rw[aoi]
 unfold abB
 obtain⟨bE,H,M⟩:=aw.idx c aA
 exact Kg H ⟨⟨bE,rfl,M⟩,rfl,rfl⟩
def acB(aw:jd X)(Y:nO X h gw s i)(aj:∀c∈s,c<256)(aF:(o X).a8<=j)(LL:gw<j):
 a2 X 38 [.ptr gw 0] h j (λac R an=>nO X R gw s (o3 s s.length i)/\ch X [gw] h j R an) zL:=by
 refine zG aw.todk (amN X) ?_
 rw[amO]
 unfold aaJ
 have bn:=Y.many
 have iy:=Y.cb
 refine cL ⟨?_⟩
 refine fE (λm I R aS=>∃(V:Nat),I.g 0=some (.ptr gw 0)/\nO X R gw s V/\s.length<=V+m/\o3 s s.length i=o3 s m V/\ch X [gw] h j R aS)
  s.length ⟨i,bo,Y,Zo,rfl,ch.refl _ _ _⟩ ?_
 rintro m I aP aX ⟨V,t0,hx,UN,bF,dz⟩
 have fN:=dz.le
 have dx:=hx.dx
 have c5:=hx.c5
 have wp:=hx.le
 have b2:=hx.g
 by_cases EL:V=s.length
 ·subst EL
  have cx:o3 s m s.length=s.length:=by cases m<;>simp[o3]
  have d:decide ((s.length:Int)<(s.length:Int))=false:=by simp
  refine gk @t0 @dx @c5 @d ⟨?_⟩
  exact⟨by rw[bF,cx];exact hx,dz.trans ⟨Zo,λ_ _ _=>rfl⟩⟩
 have d:=zB V s.length
 obtain⟨c,aA⟩:=zC s V
 obtain⟨m,rfl⟩:∃gg,m=gg+1:=⟨m-1,Zo⟩
 rw[o3,aA]at bF
 simp only[]at bF
 have dA:=CS .i64 aA
 have OV:=aj c (Zl aA)
 refine f3 @t0 @dx @c5 @d @dA ⟨?_⟩
 refine(axT aw OV).Zm ?_
 rintro ac a6 bz ⟨⟨bE,rfl,cx⟩,rfl,rfl⟩
 cases eR:L4 c with
 |true=>
  have mb:=cx.2 eR
  have cM:decide ((0:Int)<=bE)=true:=by simp;omega
  have bC:=zE V
  rw[eR]at bF
  simp only[ZG]at bF
  refine gk @t0 @c5 @cM @bC ⟨?_⟩
  refine⟨m,Zo,V+1,aW t0,⟨by rw[bh Zo];rfl,Zo,bn,iy⟩,Zo,bF,dz.trans ⟨Zo,λb aj bZ=>by simp only[Zu,ZK,YX,Yq,ZI,Yb]at bZ;exact zF⟩⟩
 |false=>
  have cM:decide ((0:Int)<=bE)=false:=by simp;have:=mt cx.1 (by rw[eR];decide);omega
  have bC:nF (.str s) (some (.Z (V:Int))) none=some (.str (s.drop V)):=QW .i64 wp
  rw[eR]at bF
  simp only[Zw,ZB]at bF
  refine f3 @t0 @dx @c5 @cM @bC ⟨?_⟩
  refine(aiR aw.todk (s.drop V) [45,45]).Zm ?_
  rintro ac bH cC ⟨rfl,rfl,rfl⟩
  by_cases ay:2<=(s.drop V).length/\(s.drop V).take 2=[45,45]
  ·rw[Zp ay]at bF
   have e2:decide ([45,45].length<=(s.drop V).length/\List.take [45,45].length (s.drop V)=[45,45])=true:=decide_eq_true ay
   have az:=Gj (λc=>decide (c≠10)) (s.drop V)
   rw[Yy]at az
   generalize bb:((s.drop V).takeWhile λc=>decide (c≠10)).length=w at bF az
   have nt:1<=w:=by
    have atS:c=45:=by
     have:=ay.2
     have aJ:s.drop V=c::s.drop (V+1):=by
      obtain⟨af,z⟩:=Zb.1 aA
      rw[Zr af,z]
     rw[aJ]at this
     simp at this
     exact this.1
    have aJ:s.drop V=c::s.drop (V+1):=by
     obtain⟨af,z⟩:=Zb.1 aA
     rw[Zr af,z]
    rw[aJ,atS,YD]at bb
    simp at bb
    omega
   have cu:bv .add (.Z (V:Int)) (.Z (w:Int))=some (.Z ((V+w:Nat):Int)):=by rw[eI Zo Zo];rfl
   simp only[e2]
   refine er @t0 @dx @c5 ⟨?_⟩
   refine(QQ aw.todk (aCr aw.todk) hx wp).Zm ?_
   rintro ac bN ci ⟨rfl,rfl,rfl⟩
   have fL:nz (.str ((s.drop V).takeWhile λc=>decide (c≠10)))=some (.Z (w:Int)):=by rw[A5,bb]
   refine er @fL @cu @c5 ⟨?_⟩
   refine gP (by simp[E.same]) ?_
   refine cL ⟨?_⟩
   refine⟨m,Zo,V+w,aW t0,⟨by rw[bh Zo];rfl,Zo,bn,iy⟩,Zo,bF,dz.trans ⟨Zo,λb aj bZ=>by simp only[Zu,ZK,YX,Yq,ZI,Yb]at bZ;exact zF⟩⟩
  ·rw[Zg ay]at bF
   have e2:decide ([45,45].length<=(s.drop V).length/\List.take [45,45].length (s.drop V)=[45,45])=false:=decide_eq_false ay
   simp only[e2]
   refine cL ⟨?_⟩
   exact⟨by rw[bF];exact hx,dz.trans ⟨Zo,λ_ _ _=>rfl⟩⟩
end
def uo:aR->Nat->Nat×Nat
 |[],n=>(n,0)
 |c::k,n=>if jn c then(if 1844674407370955162<=n then(18446744073709551615,1)else if 18446744073709551616<=n*10+(c-48)then(18446744073709551615,1)else uo k (n*10+(c-48)))
  else(0,2)
def lg(s:aR):Nat×Nat:=if s=[]then(0,2)else uo s 0
def xz:Nat->E
 |0=> .nilIface
 |n+1=> .iface 178 (.Z ((n+1:Nat):Int))
def acJ{C:aN}{h:S ag}{j:Nat}{s:aR}{ai:bK}(a:s.length<=1048576)(u:ai (.fl j 0 s.length 1) (bm C h j (some (.cells (S.ofList (s.map λn:Nat=>E.int .u8 (n:Int)) 0 .nil) s.length (.grow [])))) (j+1)):h6 (QT C h j (.str s)) h j ai:=by
 refine kH (v:= .fl j 0 s.length 1) (R:=bm C h j (some (.cells (S.ofList (s.map λn:Nat=>E.int .u8 (n:Int)) 0 .nil) s.length (.grow [])))) (an:=j+1) ?_ u
 simp[QT,uY,j3 a,n5]
def akq{x:Int}(H:0<=x)(M:x<18446744073709551616):qu .u64 x=x:=by
 simp only[qu];exact YT H M
def axK{x e:Nat}(a:x+e<18446744073709551616):bv .add (.int .u64 (x:Int)) (.int .u64 (e:Int))=some (.int .u64 ((x+e:Nat):Int)):=by
 rw[agY];congr 2;rw[YT Zo Zo];rfl
def axL{x e:Nat}(a:x*e<18446744073709551616):bv .mul (.int .u64 (x:Int)) (.int .u64 (e:Int))=some (.int .u64 ((x*e:Nat):Int)):=by
 have:(x:Int)*(e:Int)=((x*e:Nat):Int):=by simp
 simp only[bv,mc,mJ,l4,lo,fo,lT,this]
 rw[akq Zo Zo,HA]
def ag1{x e:Nat}(a:e<=x)(M:x<256):bv .sub (.int .u8 (x:Int)) (.int .u8 (e:Int))=some (.int .u8 ((x-e:Nat):Int)):=by
 have:(x:Int) -(e:Int)=((x-e:Nat):Int):=Zo
 have w:qu .u8 ((x-e:Nat):Int)=((x-e:Nat):Int):=by simp only[qu];exact YT Zo Zo
 simp only[bv,mc,mJ,l4,lo,fo,lT,this,w,HA]
def axJ{x e:Nat}(M:x+e<256):bv .add (.int .u8 (x:Int)) (.int .u8 (e:Int))=some (.int .u8 ((x+e:Nat):Int)):=by
 have:(x:Int)+(e:Int)=((x+e:Nat):Int):=Zo
 have w:qu .u8 ((x+e:Nat):Int)=((x+e:Nat):Int):=by simp only[qu];exact YT Zo Zo
 simp only[bv,mc,mJ,l4,lo,fo,lT,this,w,HA]
section
variable{X:ca}{h R aQ aP:S ag}{j an aV aX gw:Nat}{s:aR}{i:Nat}
def aj4(aw:jd X)(aC:s.length<=65536)(aj:∀c∈s,c<256)(aF:(o X).a8<=j){b:Int}(auy:b=0\/b=64):
 a2 X 87 [.str s, .Z 10, .Z b] h j (λac R an=>ac= .tuple [.int .u64 ((lg s).1:Int),xz (lg s).2]/\br X h j R an) zL:=by
 refine zG aw.todk (aol X) ?_
 rw[aom]
 unfold abD
 by_cases aK:s=[]
 ·subst aK
  have d:decide (([]:List Nat)=[])=true:=rfl
  refine cj @d ⟨?_⟩
  exact⟨rfl,dH⟩
 have d:decide (s=[])=false:=by simp[aK]
 have aD:decide ((2:Int)<=10)=true:=rfl
 have Kl:decide ((10:Int)<=36)=true:=rfl
 have aqY:decide ((10:Int)=10)=true:=rfl
 have ek:bv .shl (.int .u64 1) (.int .u64 64)=some (.int .u64 0):=by rfl
 have MO:bv .sub (.int .u64 0) (.int .u64 1)=some (.int .u64 18446744073709551615):=by rfl
 have ac4:ms .u64 (.Z 64)=some (.int .u64 64):=by rfl
 have aqV:(64:Int)%18446744073709551616=64:=rfl
 have ac5:(10:Int)%18446744073709551616=10:=rfl
 have hM:decide ((10:Int)=0)=false:=rfl
 have awv:lg s=uo s 0:=by simp[lg,aK]
 rw[awv]
 rcases auy with rfl|rfl
 all_goals
  have c2:decide ((0:Int)=0)=true:=rfl
  have cM:decide ((64:Int)=0)=false:=rfl
  have e2:decide ((64:Int)<0)=false:=rfl
  have jh:decide ((64:Int)<64)=false:=rfl
  refine eh @d @aD @Kl @aqY @hM @c2 (Za @cM (Za @e2 (Za @jh (Za @ek (Za @MO (Za @ac4 @aqV)))))) ⟨?_⟩
  refine acJ Zo ?_
  have Tr:W X (bm X h j (some (.cells (S.ofList (s.map λn:Nat=>E.int .u8 (n:Int)) 0 .nil) s.length (.grow [])))) j=some (.cells (S.ofList (s.map λn:Nat=>E.int .u8 (n:Int)) 0 .nil) s.length (.grow [])):=bh aF
  have TR:br X h j (bm X h j (some (.cells (S.ofList (s.map λn:Nat=>E.int .u8 (n:Int)) 0 .nil) s.length (.grow [])))) (j+1):=dH
  generalize bm X h j (some (.cells (S.ofList (s.map λn:Nat=>E.int .u8 (n:Int)) 0 .nil) s.length (.grow [])))=vK at*
  refine cL ⟨?_⟩
  refine fE (λm I R aS=>∃(V n:Nat),I.g 99=some (.fl j 0 s.length 1)/\I.g 100=some (.Z (s.length:Int))/\I.g 101=some (.Z (V:Int))/\I.g 13=some (.int .u64 (n:Int))/\I.g 10=some (.int .u64 1844674407370955162)/\I.g 11=some (.int .u64 18446744073709551615)/\I.g 12=some .zF/\I.g 8=some .zF/\I.g 1=some (.Z 10)/\V+m=s.length/\n<18446744073709551616/\R=vK/\j+1<=aS/\uo s 0=uo (s.drop V) n)
   s.length ⟨0,0,bo,bo,fY,fY,bo,bo,bo,bo,bo,Zo,Zo,rfl,Zo,rfl⟩ ?_
  rintro m I aP aX ⟨V,n,MW,Jv,MT,mf,js,pv,k1,gQ,t1,bF,aGw,rfl,lS,ay⟩
  have bI:br X h j aP aX:=⟨Zo,TR.ab⟩
  cases m with
  |zero=>
   have gt:=zA V s.length
   rw[ZC (by omega:s.length<=V),uo]at ay
   rw[ay]
   refine f3 @MT @Jv @k1 @mf @gt ⟨?_⟩
   exact⟨rfl,bI⟩
  |succ m=>
   have gt:=zB V s.length
   have bC:=zE V
   obtain⟨c,aA⟩:=zC s V
   have aJ:s.drop V=c::s.drop (V+1):=by
    obtain⟨af,z⟩:=Zb.1 aA
    rw[Zr af,z]
   have OV:=aj c (Zl aA)
   have dA:gd 1 (.fl j 0 s.length 1) (.Z (V:Int))=some (.ptr j V):=by rw[Fp _ Zo];simp
   have wt:aU X aP (.ptr j V)=some (.int .u8 (c:Int)):=by rw[bG Tr,m5];simp[aA]
   rw[aJ,uo]at ay
   rw[ay]
   have aHa:decide ((c:Int)=95)=decide (c=95):=by simp;omega
   have Fs:ms .u8 (.Z 10)=some (.int .u8 10):=rfl
   by_cases qQ:jn c=true
   ·have Uo:48<=c/\c<=57:=by simpa[jn]using qQ
    rw[Zp qQ]
    have wE:decide ((c:Int)=95)=false:=by simp;omega
    have bR:decide ((48:Int)<=(c:Int))=true:=by simp;omega
    have cm:decide ((c:Int)<=57)=true:=by simp;omega
    have cX:bv .sub (.int .u8 (c:Int)) (.int .u8 48)=some (.int .u8 ((c-48:Nat):Int)):=ag1 (e:=48) Zo OV
    have d4:decide ((10:Int)<=((c-48:Nat):Int))=false:=by simp;omega
    by_cases OZ:1844674407370955162<=n
    ·rw[Zp OZ]
     have dN:decide ((1844674407370955162:Int)<=(n:Int))=true:=by simp;omega
     refine eh @MT @Jv @MW @gQ @t1 @gt (Za @dA (Za @wt (Za @wE (Za @bR (Za @cm (Za @cX (Za @d4 (Za @Fs (Za @mf (Za @js (Za @dN @pv))))))))))) ⟨?_⟩
     exact⟨rfl,bI⟩
    ·rw[Zg OZ]
     have dN:decide ((1844674407370955162:Int)<=(n:Int))=false:=by simp;omega
     have dc:bv .mul (.int .u64 (n:Int)) (.int .u64 10)=some (.int .u64 ((n*10:Nat):Int)):=axL (e:=10) Zo
     have f0:((c-48:Nat):Int)%18446744073709551616=((c-48:Nat):Int):=YT Zo Zo
     by_cases Vb:18446744073709551616<=n*10+(c-48)
     ·rw[Zp Vb]
      have gG:bv .add (.int .u64 ((n*10:Nat):Int)) (.int .u64 ((c-48:Nat):Int))=some (.int .u64 ((n*10+(c-48) -18446744073709551616:Nat):Int)):=by
       have av2:(((n*10:Nat):Int)+((c-48:Nat):Int))%18446744073709551616=((n*10+(c-48) -18446744073709551616:Nat):Int):=Zo
       rw[agY,av2]
      have g4:decide (((n*10+(c-48) -18446744073709551616:Nat):Int)<((n*10:Nat):Int))=true:=zP
      refine eh @MT @Jv @MW @gQ @t1 @gt (Za @dA (Za @wt (Za @wE (Za @bR (Za @cm (Za @cX (Za @d4 (Za @Fs (Za @mf (Za @js (Za @dN (Za @ac5 (Za @dc (Za @f0 (Za @gG (Za @g4 @pv)))))))))))))))) ⟨?_⟩
      exact⟨rfl,bI⟩
     ·have In:=ay
      rw[Zp qQ,Zg OZ,Zg Vb]at In
      rw[Zg Vb]
      have gG:bv .add (.int .u64 ((n*10:Nat):Int)) (.int .u64 ((c-48:Nat):Int))=some (.int .u64 ((n*10+(c-48):Nat):Int)):=axK Zo
      have g4:decide (((n*10+(c-48):Nat):Int)<((n*10:Nat):Int))=false:=zO
      have wF:decide ((18446744073709551615:Int)<((n*10+(c-48):Nat):Int))=false:=zO
      refine eh @MT @Jv @MW @gQ @t1 @gt (Za @dA (Za @wt (Za @wE (Za @bR (Za @cm (Za @cX (Za @d4 (Za @Fs (Za @mf (Za @js (Za @dN (Za @ac5 (Za @dc (Za @f0 (Za @gG (Za @g4 (Za @wF (Za @pv @bC)))))))))))))))))) ⟨?_⟩
      exact⟨m,Zo,V+1,n*10+(c-48),aW MW,aW Jv,bo,bo,aW js,aW pv,aW k1,aW gQ,aW t1,Zo,Zo,rfl,Zo,by first|exact In|rw[In]|rfl⟩
   ·have Uo:¬(48<=c/\c<=57):=by simpa[jn]using qQ
    rw[Zg qQ]
    have akS:rR c<256:=zn _ Zo
    have cE:decide ((97:Int)<=(rR c:Int))=decide (97<=rR c):=by simp;omega
    have cA:decide ((rR c:Int)<=122)=decide (rR c<=122):=by simp;omega
    have bR:decide ((48:Int)<=(c:Int))=decide (48<=c):=by simp;omega
    have cm:decide ((c:Int)<=57)=decide (c<=57):=by simp;omega
    have fin:97<=rR c->rR c<=122->∃bE:Nat,bv .sub (.int .u8 (rR c:Int)) (.int .u8 97)=some (.int .u8 ((rR c-97:Nat):Int))/\bv .add (.int .u8 ((rR c-97:Nat):Int)) (.int .u8 10)=some (.int .u8 ((rR c-97+10:Nat):Int))/\decide ((10:Int)<=((rR c-97+10:Nat):Int))=true:=λH M=>
     ⟨0,ag1 (e:=97) H akS,axJ (e:=10) Zo,by simp only[Zh];omega⟩
    by_cases aFN:c=95<;>by_cases atT:48<=c<;>by_cases atU:c<=57<;>try omega
    all_goals
     simp only[atT,atU,YG,Yl]at bR cm
     first|have ahc:decide ((c:Int)=95)=true:=by simp only[Zh];omega|have ahc:decide ((c:Int)=95)=false:=zO
     refine eh @MT @Jv @MW @gQ @t1 @gt (Za @dA (Za @wt (Za @ahc (Za @bR @cm)))) ⟨?_⟩
     refine(Wn aw.todk c).Zm ?_
     rintro ac a6 bz ⟨rfl,rfl,rfl⟩
     by_cases n0:97<=rR c
     ·simp only[n0,YG]at cE
      refine cj @cE ⟨?_⟩
      refine(Wn aw.todk c).Zm ?_
      rintro ac a6 bz ⟨rfl,rfl,rfl⟩
      by_cases lR:rR c<=122
      ·simp only[lR,YG]at cA
       refine cj @cA ⟨?_⟩
       refine(Wn aw.todk c).Zm ?_
       rintro ac a6 bz ⟨rfl,rfl,rfl⟩
       obtain⟨_,eO,fp,kO⟩:=fin n0 lR
       refine f3 @eO @fp @kO @Fs @t1 ⟨?_⟩
       exact⟨rfl,bI⟩
      ·simp only[lR,Yl]at cA
       refine cj @cA ⟨?_⟩
       exact⟨rfl,bI⟩
     ·simp only[n0,Yl]at cE
      refine cj @cE ⟨?_⟩
      exact⟨rfl,bI⟩
end
structure mi(X:ca):Prop where
 aC5:∃b,∀h,aU X h (.ptr 5 0)=some (.iface 206 (.ptr b 0))
 seven:∃b,∀h,aU X h (.ptr 6 0)=some (.iface 206 (.ptr b 0))
section
variable{X:ca}{h R aQ aP:S ag}{j an aV aX gw:Nat}{s:aR}{i:Nat}
def arB:db X h .eql 139 false (.iface 178 (.Z 2)) (.iface 178 (.Z 2))=some .zT:=Zk
def arA:db X h .eql 139 false (.iface 178 (.Z 1)) (.iface 178 (.Z 2))=some .zF:=Zk
def arz:db X h .eql 139 false (.iface 178 (.Z 1)) (.iface 178 (.Z 1))=some .zT:=Zk
def IX(u:Int):db X h .neq 139 true (.iface 178 (.Z u)) .nilIface=some .zT:=Zk
def FJ:db X h .neq 139 true .nilIface .nilIface=some .zF:=Zk
def ah7(b:Nat):db X h .neq 139 true (.iface 181 (.ptr b 0)) .nilIface=some .zT:=Zk
def aDW(aw:jd X)(bY:mi X)(f:aR)(aC:s.length<=65536)(qN:∀c∈s,c<256)(aF:(o X).a8<=j):
 a2 X 111 [.str f, .str s] h j (λac R an=>(∃b,ac= .ptr b 0)/\br X h j R an) zL:=by
 refine zG aw.todk (ale X) ?_
 rw[alf]
 unfold θ
 obtain⟨b,aj⟩:=bY.aC5
 refine cj @aj ⟨?_⟩
 refine Kg (aw.clone s qN aC) ?_
 refine cj @aj ⟨?_⟩
 refine gP (by simp[E.same]) ?_
 exact⟨⟨_,rfl⟩,dH⟩
def aBW(aw:jd X)(bY:mi X)(f:aR)(aC:s.length<=65536)(qN:∀c∈s,c<256)(aF:(o X).a8<=j):
 a2 X 112 [.str f, .str s] h j (λac R an=>(∃b,ac= .ptr b 0)/\br X h j R an) zL:=by
 refine zG aw.todk (alg X) ?_
 rw[alh]
 unfold ι
 obtain⟨b,aj⟩:=bY.seven
 refine cj @aj ⟨?_⟩
 refine Kg (aw.clone s qN aC) ?_
 refine cj @aj ⟨?_⟩
 refine gP (by simp[E.same]) ?_
 exact⟨⟨_,rfl⟩,dH⟩
def Ob(aw:jd X)(bY:mi X)(f:aR)(x e:E)(aC:s.length<=65536)(qN:∀c∈s,c<256)(aF:(o X).a8<=j){u:Nat}(aH:u=1\/u=2):
 a2 X 88 [.str f, .str s,x,e,xz u] h j (λac R an=>(∃b,ac= .iface 181 (.ptr b 0))/\br X h j R an) zL:=by
 refine zG aw.todk (aon X) ?_
 rw[aoo]
 unfold abE
 rcases aH with rfl|rfl
 ·have bC:xz 1= .iface 178 (.Z 1):=rfl
  rw[bC]
  refine cS @arA @arz ⟨?_⟩
  refine(aBW aw bY f aC qN aF).Zm ?_
  rintro ac a6 bz ⟨⟨b,rfl⟩,cp⟩
  refine cL ⟨?_⟩
  exact⟨⟨_,rfl⟩,cp⟩
 ·have bC:xz 2= .iface 178 (.Z 2):=rfl
  rw[bC]
  refine cj @arB ⟨?_⟩
  refine(aDW aw bY f aC qN aF).Zm ?_
  rintro ac a6 bz ⟨⟨b,rfl⟩,cp⟩
  refine cL ⟨?_⟩
  exact⟨⟨_,rfl⟩,cp⟩
def aBK:∀(k:aR) (n:Nat),(uo k n).2=0\/(uo k n).2=1\/(uo k n).2=2:=by
 intro k
 induction k with
 |nil=>intro n;exact .inl rfl
 |cons c k ah=>
  intro n
  rw[uo]
  split
  ·split
   ·exact .inr (.inl rfl)
   ·split
    ·exact .inr (.inl rfl)
    ·exact ah _
  ·exact .inr (.inr rfl)
def aiS(k:aR):(lg k).2=0\/(lg k).2=1\/(lg k).2=2:=by
 unfold lg;split
 ·exact .inr (.inr rfl)
 ·exact aBK _ _
def aBj(aw:jd X)(bY:mi X)(aC:s.length<=65536)(aj:∀c∈s,c<256)(aF:(o X).a8<=j):
 a2 X 64 [.str s, .Z 10, .Z 64] h j (λac R an=>(∃D,ac= .tuple [.int .u64 ((lg s).1:Int),D]/\((lg s).2=0/\D= .nilIface\/(lg s).2≠0/\∃b,D= .iface 181 (.ptr b 0)))/\br X h j R an) zL:=by
 refine zG aw.todk (anF X) ?_
 rw[anG]
 unfold abc
 refine(aj4 aw aC aj aF (.inr rfl)).Zm ?_
 rintro ac a6 bz ⟨rfl,cp⟩
 have jm:=cp.le
 rcases aiS s with a|a|a
 ·rw[a]
  have bC:xz 0= .nilIface:=rfl
  rw[bC]
  refine cj @FJ ⟨?_⟩
  exact⟨⟨_,rfl, .inl ⟨rfl,rfl⟩⟩,cp⟩
 ·rw[a]
  have bC:xz 1= .iface 178 (.Z 1):=rfl
  rw[bC]
  refine cj @IX ⟨?_⟩
  refine(Ob (j:=bz) (h:=a6) aw bY [80,97,114,115,101,85,105,110,116] (.Z 10) (.Z 64) aC aj (ZD aF jm) (u:=1) Zd).Zm ?_
  rintro ac bH cC ⟨⟨b,rfl⟩,cW⟩
  refine cL ⟨?_⟩
  exact⟨⟨_,rfl, .inr ⟨Zd,b,rfl⟩⟩,cp.trans cW⟩
 ·rw[a]
  have bC:xz 2= .iface 178 (.Z 2):=rfl
  rw[bC]
  refine cj @IX ⟨?_⟩
  refine(Ob (j:=bz) (h:=a6) aw bY [80,97,114,115,101,85,105,110,116] (.Z 10) (.Z 64) aC aj (ZD aF jm) (u:=2) Zd).Zm ?_
  rintro ac bH cC ⟨⟨b,rfl⟩,cW⟩
  refine cL ⟨?_⟩
  exact⟨⟨_,rfl, .inr ⟨Zd,b,rfl⟩⟩,cp.trans cW⟩
end
def X0(D:E):Prop:=D= .nilIface\/D= .iface 178 (.Z 1)\/D= .iface 178 (.Z 2)
def DR(s:aR):Prop:=∀c∈s,c≠43/\c≠45
def yC(s:aR):Nat:=s.foldl (λn c=>n*10+(c-48)) 0
def aBL:∀(k:aR) (n:Nat),n<18446744073709551616->(uo k n).1<18446744073709551616:=by
 intro k
 induction k with
 |nil=>intro n a;exact a
 |cons c k ah=>
  intro n a
  rw[uo]
  split
  ·split
   ·show 18446744073709551615<_;omega
   ·split
    ·show 18446744073709551615<_;omega
    ·exact ah _ Zo
  ·show 0<_;omega
def aiT(k:aR):(lg k).1<18446744073709551616:=by
 unfold lg;split
 ·show 0<_;omega
 ·exact aBL _ _ Zo
section
variable{X:ca}{h R aQ aP:S ag}{j an aV aX gw:Nat}{s:aR}{i:Nat}
def aia:db X h .neq 139 false (.iface 178 (.Z 1)) (.iface 178 (.Z 1))=some .zF:=Zk
def aib:db X h .neq 139 false (.iface 178 (.Z 2)) (.iface 178 (.Z 1))=some .zT:=Zk
def ag5(aw:jd X)(aC:s.length<=65536)(aj:∀c∈s,c<256)(va:DR s)(aF:(o X).a8<=j):
 a2 X 131 [.str s, .Z 10, .Z 0] h j (λac R an=>(∃bE D,ac= .tuple [.Z bE,D]/\X0 D)/\br X h j R an) zL:=by
 refine zG aw.todk (alP X) ?_
 rw[alQ]
 unfold aab
 by_cases aK:s=[]
 ·subst aK
  have d:decide (([]:List Nat)=[])=true:=rfl
  refine cj @d ⟨?_⟩
  exact⟨⟨_,_,rfl, .inr (.inr rfl)⟩,br.refl _ _⟩
 have d:decide (s=[])=false:=by simp[aK]
 obtain⟨c,e1,rfl⟩:∃c e1,s=c::e1:=by cases s with
  |nil=>exact absurd rfl aK
  |cons c e1=>exact⟨c,e1,rfl⟩
 have dA:oF (.str (c::e1)) (.Z 0)=some (.int .u8 (c:Int)):=CS (i:=0) .i64 rfl
 have aA:=va c (Zv ..)
 have bR:decide ((c:Int)=43)=false:=zO
 have cm:decide ((c:Int)=45)=false:=zO
 refine gk @d @dA @bR @cm ⟨?_⟩
 refine(aj4 aw aC aj aF (.inl rfl)).Zm ?_
 rintro ac a6 bz ⟨rfl,cp⟩
 have jm:=cp.le
 generalize ay:lg (c::e1)=p
 have pf:=aiS (c::e1)
 have tY:=aiT (c::e1)
 rw[ay]at pf tY
 obtain⟨M3,aFH⟩:=p
 simp only[]at pf tY ⊢
 have hM:decide ((0:Int)=0)=true:=rfl
 have i2:bv .sub (.Z 64) (.Z 1)=some (.Z 63):=rfl
 have jF:(63:Int)%18446744073709551616=63:=rfl
 have ML:bv .shl (.int .u64 1) (.int .u64 63)=some (.int .u64 9223372036854775808):=rfl
 have aCF:bv .sub (.int .u64 9223372036854775808) (.int .u64 1)=some (.int .u64 9223372036854775807):=rfl
 have aCG:ms .i64 (.int .u64 9223372036854775807)=some (.Z 9223372036854775807):=rfl
 rcases pf with rfl|rfl|rfl
 all_goals
  simp only[show xz 0= .nilIface from rfl,show xz 1= .iface 178 (.Z 1) from rfl,show xz 2= .iface 178 (.Z 2) from rfl]
  by_cases OZ:9223372036854775808<=M3
  ·have c2:decide ((9223372036854775808:Int)<=(M3:Int))=true:=zP
   refine eh @FJ @IX @aia @aib @hM @i2 (Za @jF (Za @ML (Za @c2 (Za @aCF @aCG)))) ⟨?_⟩
   exact⟨⟨_,_,rfl,by first|exact .inl rfl|exact .inr (.inl rfl)|exact .inr (.inr rfl)⟩,cp⟩
  ·have c2:decide ((9223372036854775808:Int)<=(M3:Int))=false:=zO
   have aCH:ms .i64 (.int .u64 (M3:Int))=some (.Z (M3:Int)):=NS Zo Zo
   refine eh @FJ @IX @aia @aib @hM @i2 (Za @jF (Za @ML (Za @c2 @aCH))) ⟨?_⟩
   exact⟨⟨_,_,rfl,by first|exact .inl rfl|exact .inr (.inl rfl)|exact .inr (.inr rfl)⟩,cp⟩
end
def agZ{x e:Int}(H: -9223372036854775808<=x*e)(M:x*e<9223372036854775808):bv .mul (.Z x) (.Z e)=some (.Z (x*e)):=by
 simp[bv,mc,mJ,l4,lT,wrap64 H M]
def axM{c:Nat}(a:c<256):bv .sub (.int .u8 (c:Int)) (.int .u8 48)=some (.int .u8 (((c+208)%256:Nat):Int)):=by
 have w:qu .u8 ((c:Int) -48)=(((c+208)%256:Nat):Int):=by
  show((c:Int) -48)%256=_
  omega
 simp only[bv,mc,mJ,l4,lo,fo,lT,w,HA]
def aEI(k:aR)(c:Nat):yC (k++[c])=yC k*10+(c-48):=by simp[yC,List.foldl_append]
section
variable{X:ca}{h R aQ aP:S ag}{j an aV aX gw:Nat}{s:aR}{i:Nat}
def akH(s:aR)(ac:E):Prop:=∃bE D,ac= .tuple [.Z bE,D]/\X0 D/\(s≠[]->s.length<19->(∀c∈s,jn c=true)->D= .nilIface/\bE=(yC s:Int))
def apM(aw:jd X)(aC:s.length<=65536)(aj:∀c∈s,c<256)(va:DR s)(aF:(o X).a8<=j):
 a2 X 115 [.str s] h j (λac R an=>akH s ac/\br X h j R an) zL:=by
 refine zG aw.todk (ali X) ?_
 rw[alj]
 unfold κ
 by_cases aK:s=[]
 ·subst aK
  have hM:decide ((0:Int)<((0:Nat):Int))=false:=rfl
  refine cj @hM ⟨?_⟩
  refine(ag5 aw aC aj va aF).Zm ?_
  rintro ac a6 bz ⟨⟨bE,D,rfl,bA⟩,cp⟩
  refine cL ⟨?_⟩
  exact⟨⟨bE,D,rfl,bA,λa=>absurd rfl a⟩,cp⟩
 have pZ:0<s.length:=ZU.2 aK
 have hM:decide ((0:Int)<(s.length:Int))=true:=zP
 by_cases KP:s.length<19
 ·have c2:decide ((s.length:Int)<19)=true:=zP
  obtain⟨c,tN⟩:∃c,s[0]? =some c:=⟨_,Ze pZ⟩
  have dA:oF (.str s) (.Z 0)=some (.int .u8 (c:Int)):=CS (i:=0) .i64 tN
  have aA:=va c (Zl tN)
  have bR:decide ((c:Int)=43)=false:=zO
  have cm:decide ((c:Int)=45)=false:=zO
  refine f3 @hM @c2 @dA @bR @cm ⟨?_⟩
  refine acJ Zo ?_
  have Tr:W X (bm X h j (some (.cells (S.ofList (s.map λn:Nat=>E.int .u8 (n:Int)) 0 .nil) s.length (.grow [])))) j=some (.cells (S.ofList (s.map λn:Nat=>E.int .u8 (n:Int)) 0 .nil) s.length (.grow [])):=bh aF
  have TR:br X h j (bm X h j (some (.cells (S.ofList (s.map λn:Nat=>E.int .u8 (n:Int)) 0 .nil) s.length (.grow [])))) (j+1):=dH
  generalize bm X h j (some (.cells (S.ofList (s.map λn:Nat=>E.int .u8 (n:Int)) 0 .nil) s.length (.grow [])))=vK at*
  refine cL ⟨?_⟩
  refine fE (λm I R aS=>∃(V n p:Nat),I.g 47=some (.fl j 0 s.length 1)/\I.g 48=some (.Z (s.length:Int))/\I.g 49=some (.Z (V:Int))/\I.g 6=some (.Z (n:Int))/\I.g 5=some (.str s)/\V+m=s.length/\p*10^m<=10^18/\n<p/\R=vK/\j+1<=aS/\n=yC (s.take V))
   s.length ⟨0,0,1,bo,bo,fY,fY,bo,Zo,by rw[Nat.one_mul];exact Nat.pow_le_pow_right Zo Zo,Zo,rfl,Zo,rfl⟩ ?_
  rintro m I aP aX ⟨V,n,p,Xz,Q3,s5,eY,t5,bF,wz,aGD,rfl,lS,bD⟩
  have bI:br X h j aP aX:=⟨Zo,TR.ab⟩
  cases m with
  |zero=>
   have gt:=zA V s.length
   refine eh @s5 @Q3 @t5 @eY @gt @dA @cm ⟨?_⟩
   rw[ZA Zo]at bD
   exact⟨⟨_,_,rfl, .inl rfl,λ_ _ _=>⟨rfl,by rw[bD]⟩⟩,bI⟩
  |succ m=>
   have gt:=zB V s.length
   have bC:=zE V
   obtain⟨F,aE⟩:∃c,s[V]? =some c:=⟨_,Ze Zo⟩
   have aus:=aj F (Zl aE)
   have Lo:gd 1 (.fl j 0 s.length 1) (.Z (V:Int))=some (.ptr j V):=by rw[Fp _ Zo];simp
   have wt:aU X aP (.ptr j V)=some (.int .u8 (F:Int)):=by rw[bG Tr,m5];simp[aE]
   have cu:=axM aus
   generalize bb:(F+208)%256=w at cu
   by_cases gY:9<w
   ·have ht:decide ((9:Int)<(w:Int))=true:=zP
    refine eh @s5 @Q3 @Xz @gt @Lo @wt (Za @cu @ht) ⟨?_⟩
    refine⟨⟨_,_,rfl, .inr (.inr rfl),λ_ _ k7=> ?_⟩,bI⟩
    have:=k7 F (Zl aE)
    simp[jn]at this
    omega
   ·have ht:decide ((9:Int)<(w:Int))=false:=zO
    have Uo:48<=F/\F<=57/\w=F-48:=Zo
    have eu:p*10<=10^18:=by
     have:p*10^(m+1)=(p*10)*10^m:=by rw[Nat.pow_succ];rw[Nat.mul_assoc,zv (10^m) 10]
     rw[this]at wz
     exact ZD (Y0 _ (Nat.pos_of_ne_zero Zs)) wz
    have dI:p*10*10^m<=10^18:=by
     have:p*10^(m+1)=(p*10)*10^m:=by rw[Nat.pow_succ];rw[Nat.mul_assoc,zv (10^m) 10]
     rw[this]at wz;exact wz
    have g2:p*10<=1000000000000000000:=eu
    have fL:bv .mul (.Z (n:Int)) (.Z 10)=some (.Z ((n*10:Nat):Int)):=by rw[agZ Zo Zo];rfl
    have j5:ms .i64 (.int .u8 (w:Int))=some (.Z (w:Int)):=NS Zo Zo
    have qI:bv .add (.Z ((n*10:Nat):Int)) (.Z (w:Int))=some (.Z ((n*10+w:Nat):Int)):=by rw[eI Zo Zo];rfl
    refine eh @s5 @Q3 @Xz @gt @Lo @wt (Za @cu (Za @ht (Za @eY (Za @fL (Za @j5 (Za @qI @bC)))))) ⟨?_⟩
    refine⟨m,Zo,V+1,n*10+w,p*10,aW Xz,aW Q3,bo,bo,aW t5,Zo,dI,Zo,rfl,Zo, ?_⟩
    rw[ZY,aE]
    show _=yC (s.take V++[F])
    rw[aEI, <-bD,Uo.2.2]
 ·have c2:decide ((s.length:Int)<19)=false:=zO
  refine cS @hM @c2 ⟨?_⟩
  refine(ag5 aw aC aj va aF).Zm ?_
  rintro ac a6 bz ⟨⟨bE,D,rfl,bA⟩,cp⟩
  refine cL ⟨?_⟩
  exact⟨⟨bE,D,rfl,bA,λ_ a=>absurd a KP⟩,cp⟩
def akI(s:aR)(ac:E):Prop:=∃bE D,ac= .tuple [.Z bE,D]/\(D= .nilIface\/∃b,D= .iface 181 (.ptr b 0))/\(s≠[]->s.length<19->(∀c∈s,jn c=true)->D= .nilIface/\bE=(yC s:Int))
def acs(aw:jd X)(bY:mi X)(aC:s.length<=65536)(aj:∀c∈s,c<256)(va:DR s)(aF:(o X).a8<=j):
 a2 X 89 [.str s] h j (λac R an=>akI s ac/\br X h j R an) zL:=by
 refine zG aw.todk (aop X) ?_
 rw[aoq]
 unfold abF
 refine(apM aw aC aj va aF).Zm ?_
 rintro ac a6 bz ⟨⟨bE,D,rfl,bA,af⟩,cp⟩
 have jm:=cp.le
 rcases bA with rfl|rfl|rfl
 ·refine cj @FJ ⟨?_⟩
  exact⟨⟨_,_,rfl, .inl rfl,af⟩,cp⟩
 ·refine cj @IX ⟨?_⟩
  refine(Ob (j:=bz) (h:=a6) aw bY [65,116,111,105] (.Z 0) (.Z 0) aC aj (ZD aF jm) (u:=1) Zd).Zm ?_
  rintro ac bH cC ⟨⟨b,rfl⟩,cW⟩
  refine cL ⟨?_⟩
  exact⟨⟨_,_,rfl, .inr ⟨b,rfl⟩,λH M al=>absurd (af H M al).1 Zs⟩,cp.trans cW⟩
 ·refine cj @IX ⟨?_⟩
  refine(Ob (j:=bz) (h:=a6) aw bY [65,116,111,105] (.Z 0) (.Z 0) aC aj (ZD aF jm) (u:=2) Zd).Zm ?_
  rintro ac bH cC ⟨⟨b,rfl⟩,cW⟩
  refine cL ⟨?_⟩
  exact⟨⟨_,_,rfl, .inr ⟨b,rfl⟩,λH M al=>absurd (af H M al).1 Zs⟩,cp.trans cW⟩
end
def lA(t:d3):Bool:=if t.b then !t.s&&decide (t.w=1)else decide (1<=t.w)&&decide (t.w<=64)
def j8(n:Nat):aR:=if n<10 then[48+n]else[48+n/10,48+n%10]
def oa(t:d3):aR:=if lA t then(if t.b then[98,111,111,108]else(if t.s then 105 else 117)::j8 t.w.toNat)else[]
def l2:aR->Option d3
 |[]=>none
 |c::k=>if c::k=[98,111,111,108]then some ⟨true,false,1⟩
  else if c=105\/c=117 then((List.range 65).find? λn=>decide (1<=n)&&decide (j8 n=k)).map λn:Nat=>⟨false,decide (c=105),(n:Int)⟩
  else none
section
variable{X:ca}{h R aQ aP:S ag}{j an aV aX gw:Nat}{s:aR}{i:Nat}
def FF(aw:dk X)(t:d3)(aF:(o X).a8<=j):a2 X 90 [.agg (eE t)] h j (λac R an=>ac= .bool (lA t)/\br X h j R an) zL:=by
 refine zG aw (aot X) ?_
 rw[aou]
 unfold abH eE
 obtain⟨b,s,w⟩:=t
 cases b<;>cases s
 all_goals
  by_cases H:1<=w
  ·have c2:decide ((1:Int)<=w)=true:=by simp[H]
   refine cj @c2 ⟨?_⟩
   exact⟨by simp[lA,H],dH⟩
  ·have c2:decide ((1:Int)<=w)=false:=by simp[H]
   refine cj @c2 ⟨?_⟩
   exact⟨by simp[lA,H],dH⟩
def aDe:∀n<10,([48,49,50,51,52,53,54,55,56,57,97,98,99,100,101,102,103,104,105,106,107,108,109,110,111,112,113,114,115,116,117,118,119,120,121,122].drop n).take (n+1-n)=j8 n:=by decide+kernel
def QY:aR:=[48,48,48,49,48,50,48,51,48,52,48,53,48,54,48,55,48,56,48,57,49,48,49,49,49,50,49,51,49,52,49,53,49,54,49,55,49,56,49,57,50,48,50,49,50,50,50,51,50,52,50,53,50,54,50,55,50,56,50,57,51,48,51,49,51,50,51,51,51,52,51,53,51,54,51,55,51,56,51,57,52,48,52,49,52,50,52,51,52,52,52,53,52,54,52,55,52,56,52,57,53,48,53,49,53,50,53,51,53,52,53,53,53,54,53,55,53,56,53,57,54,48,54,49,54,50,54,51,54,52,54,53,54,54,54,55,54,56,54,57,55,48,55,49,55,50,55,51,55,52,55,53,55,54,55,55,55,56,55,57,56,48,56,49,56,50,56,51,56,52,56,53,56,54,56,55,56,56,56,57,57,48,57,49,57,50,57,51,57,52,57,53,57,54,57,55,57,56,57,57]
def aDg:QY.length=200:=by decide+kernel
def aDf:∀n<100,10<=n->(QY.drop (n*2)).take (n*2+2-n*2)=j8 n:=by decide+kernel
def PW(aw:dk X){n:Nat}(aF:n<100):a2 X 116 [.Z (n:Int)] h j (λac R an=>ac= .str (j8 n)/\R=h/\an=j) zL:=by
 refine zG aw (alk X) ?_
 rw[alm]
 unfold μ
 refine zG aw (alR X) ?_
 rw[alS]
 unfold aac
 refine zG aw (al5 X) ?_
 rw[al6]
 unfold aaj
 have hM:decide ((0:Int)<=(n:Int))=true:=zP
 have c2:decide ((n:Int)<100)=true:=zP
 refine cS @hM @c2 ⟨?_⟩
 refine zG aw (amd X) ?_
 rw[ame]
 unfold aan
 by_cases a:n<10
 ·have cM:decide ((n:Int)<10)=true:=zP
  have bC:=zE n
  have cu:nF (.str [48,49,50,51,52,53,54,55,56,57,97,98,99,100,101,102,103,104,105,106,107,108,109,110,111,112,113,114,115,116,117,118,119,120,121,122]) (some (.Z (n:Int))) (some (.Z ((n+1:Nat):Int)))=some (.str (j8 n)):=by
   rw[Xi .i64 .i64 Zo Zx,aDe n a]
  refine er @cM @bC @cu ⟨?_⟩
  exact⟨rfl,rfl,rfl⟩
 ·have cM:decide ((n:Int)<10)=false:=zO
  have bC:bv .mul (.Z (n:Int)) (.Z 2)=some (.Z ((n*2:Nat):Int)):=by rw[agZ Zo Zo];rfl
  have cu:bv .add (.Z ((n*2:Nat):Int)) (.Z 2)=some (.Z ((n*2+2:Nat):Int)):=by rw[eI Zo Zo];rfl
  have fL:nF (.str QY) (some (.Z ((n*2:Nat):Int))) (some (.Z ((n*2+2:Nat):Int)))=some (.str (j8 n)):=by
   rw[Xi .i64 .i64 Zo (zz aDg),aDf n aF Zo]
  unfold QY at fL
  refine gk @cM @bC @cu @fL ⟨?_⟩
  exact⟨rfl,rfl,rfl⟩
def aCJ(aw:dk X)(t:d3)(aF:(o X).a8<=j):a2 X 91 [.agg (eE t)] h j (λac R an=>ac= .str (oa t)/\br X h j R an) zL:=by
 refine zG aw (aov X) ?_
 rw[aow]
 unfold abI
 have ba:eE t=[.bool t.b, .bool t.s, .Z t.w]:=rfl
 rw[ba]
 refine cL ⟨?_⟩
 refine e0 (λaQ=>W X aQ j=zD [.bool t.b, .bool t.s, .Z t.w] 3/\br X h j aQ (j+1)) ⟨bh aF,dH⟩ ?_
 rintro aQ ⟨bP,bL⟩
 refine(FF aw t Zo).Zm ?_
 rintro ac aP aX ⟨rfl,bI⟩
 have fN:=bI.le
 have bY:=bL.trans bI
 have b2:W X aP j=zD [.bool t.b, .bool t.s, .Z t.w] 3:=by rw[bI.ab _ Zo];exact bP
 have dx:aU X aP (.ptr j 0)=some (.bool t.b):=by rw[bG b2];rfl
 have c5:aU X aP (.ptr j 1)=some (.bool t.s):=by rw[bG b2];rfl
 have dC:aU X aP (.ptr j 2)=some (.Z t.w):=by rw[bG b2];rfl
 cases bn:lA t with
 |false=>
  refine cL ⟨?_⟩
  exact⟨by simp[oa,bn],bY⟩
 |true=>
  cases lv:t.b with
  |true=>
   rw[lv]at dx
   refine cj @dx ⟨?_⟩
   exact⟨by simp[oa,bn,lv],bY⟩
  |false=>
   rw[lv]at dx
   have bb:1<=t.w/\t.w<=64:=by simpa[lA,lv]using bn
   obtain⟨w,AZ⟩:=Ye (by omega:0<=t.w)
   rw[AZ]at dC
   have aG:j8 t.w.toNat=j8 w:=by rw[AZ];rfl
   have eM:(j8 w).length<=2:=by unfold j8;split<;>simp
   have uM:∀h c,db X h .add 9 true (.str [c]) (.str (j8 w))=some (.str (c::j8 w)):=λh c=>by
    have:Nat.ble ([c].length+(j8 w).length) 1000000000=true:=j3 Zx
    simp only[db,BT,this,fo];rfl
   cases kW:t.s with
   |true=>
    rw[kW]at c5
    refine er @dx @c5 @dC ⟨?_⟩
    refine(PW aw Zo).Zm ?_
    rintro ac a6 bz ⟨rfl,rfl,rfl⟩
    refine cj @uM ⟨?_⟩
    exact⟨by simp[oa,bn,lv,kW,aG],bY⟩
   |false=>
    rw[kW]at c5
    refine er @dx @c5 @dC ⟨?_⟩
    refine(PW aw Zo).Zm ?_
    rintro ac a6 bz ⟨rfl,rfl,rfl⟩
    refine cj @uM ⟨?_⟩
    exact⟨by simp[oa,bn,lv,kW,aG],bY⟩
end
def L6{n:Nat}(a:n<100):j8 n≠[]/\(j8 n).length<19/\(∀c∈j8 n,jn c=true)/\yC (j8 n)=n:=by
 unfold j8
 split
 ·refine⟨Zs,Zs, ?_, ?_⟩
  ·intro c aA;simp at aA;subst aA;simp[jn];omega
  ·simp[yC]
 ·refine⟨Zs,Zs, ?_, ?_⟩
  ·intro c aA;simp at aA;rcases aA with rfl|rfl<;>simp[jn]<;>omega
  ·simp[yC];omega
def Q9(c:Nat)(k:aR):l2 (c::k)=if c::k=[98,111,111,108]then some ⟨true,false,1⟩
 else if c=105\/c=117 then((List.range 65).find? λn=>decide (1<=n)&&decide (j8 n=k)).map λn:Nat=>⟨false,decide (c=105),(n:Int)⟩
 else none:=rfl
def M1{c:Nat}{k:aR}{t:d3}(a:l2 (c::k)=some t)(aj:c::k≠[98,111,111,108]):(c=105\/c=117)/\∃n:Nat,1<=n/\n<=64/\j8 n=k/\t=⟨false,decide (c=105),(n:Int)⟩:=by
 rw[Q9]at a
 rw[Zg aj]at a
 split at a
 ·rename_i aA
  refine⟨aA, ?_⟩
  simp only[Yj]at a
  obtain⟨n,H,M⟩:=a
  have al:=List.find?_some H
  have aB:=List.mem_of_find?_eq_some H
  simp at al aB
  exact⟨n,al.1,Zo,al.2,M.symm⟩
 ·cases a
def ajW{c:Nat}{k:aR}(a:l2 (c::k)=none)(aA:c=105\/c=117){n:Nat}(H:1<=n)(M:n<=64):j8 n≠k:=by
 intro aF
 rw[Q9]at a
 split at a
 ·cases a
 ·first
  |rw[Zp aA]at a
  |skip
  simp at a
  exact a n Zo H aF
def br.set{C:aN}{h aQ:S ag}{j aV b aS:Nat}{cT:Option ag}(a:br C h j aQ aV)(aj:j<=b)(aK:C.a8<=j)(aF:aV<=aS):br C h j (bm C aQ b cT) aS:=
 ⟨ZD a.le aF,λe z=>by rw[aI Zo Zo];exact a.ab e z⟩
section
variable{X:ca}{h R aQ aP:S ag}{j an aV aX gw:Nat}{s:aR}{i:Nat}
def ajV(aw:jd X)(bY:mi X)(aC:s.length<=65536)(aj:∀c∈s,c<256)(va:DR s)(aF:(o X).a8<=j):
 a2 X 66 [.str s] h j (λac R an=>ac= .tuple [.agg (eE ((l2 s).getD dQ)), .bool (l2 s).isSome]/\br X h j R an) zL:=by
 refine zG aw.todk (anJ X) ?_
 rw[anK]
 unfold abe
 by_cases xO:s=[98,111,111,108]
 ·have d:decide (s=[98,111,111,108])=true:=by simp[xO]
  refine cj @d ⟨?_⟩
  exact⟨by subst xO;rfl,dH⟩
 have d:decide (s=[98,111,111,108])=false:=by simp[xO]
 cases s with
 |nil=>
  have cM:decide (([]:List Nat)=[])=true:=rfl
  refine cS @d @cM ⟨?_⟩
  exact⟨rfl,dH⟩
 |cons c k=>
  have cM:decide (c::k=[])=false:=by simp
  have dA:oF (.str (c::k)) (.Z 0)=some (.int .u8 (c:Int)):=CS (i:=0) .i64 rfl
  by_cases aA:c=105\/c=117
  ·have hP:nF (.str (c::k)) (some (.Z 1)) none=some (.str k):=QW (k:=1) .i64 Zs
   have eM:k.length<=65536:=by simp at aC;omega
   have ws:∀c∈k,c<256:=λx af=>aj x (Zt _ af)
   have avR:DR k:=λx af=>va x (Zt _ af)
   have e2:∃bQ cl,decide ((c:Int)≠117)=bQ/\decide ((c:Int)≠105)=cl/\(bQ=false\/bQ=true/\cl=false):=by
    rcases aA with rfl|rfl
    ·exact⟨true,false,rfl,rfl, .inr ⟨rfl,rfl⟩⟩
    ·exact⟨false,true,rfl,rfl, .inl rfl⟩
   obtain⟨bQ,cl,e2,jh,mZ⟩:=e2
   have gt:decide ((c:Int)=105)=decide (c=105):=by simp;omega
   rcases mZ with rfl|⟨rfl,rfl⟩
   all_goals
    refine ic @d @cM @dA @e2 @jh @hP ⟨?_⟩
    refine e0 (λaQ=>W X aQ j=zD [.zF, .zF, .Z 0] 3/\br X h j aQ (j+1)) ⟨bh aF,dH⟩ ?_
    rintro aQ ⟨bP,bL⟩
    refine(acs aw bY eM ws avR Zo).Zm ?_
    rintro ac aP aX ⟨⟨bE,D,rfl,bA,af⟩,bI⟩
    have fN:=bI.le
    have b2:W X aP j=zD [.zF, .zF, .Z 0] 3:=by rw[bI.ab _ Zo];exact bP
    have hb:=bL.trans bI
    refine cS @dA @gt ⟨?_⟩
    generalize eQ:bm X _ aX _=a6
    have cI:W X a6 j=zD [.zF, .zF, .Z 0] 3:=by rw[<-eQ];simp(disch:=omega) only[aI];exact b2
    have dL:W X a6 aX=zD [.zF, .bool (decide (c=105)), .Z bE] 3:=by rw[<-eQ];rw[bh Zo];rfl
    have cp:br X h j a6 (aX+1):=hb.trans (by rw[<-eQ];exact dH)
    clear eQ
    rcases bA with rfl|⟨b,rfl⟩
    ·refine cS @FJ (bG dL) ⟨?_⟩
     refine(FF (j:=aX+1) (h:=a6) aw.todk ⟨false,decide (c=105),bE⟩ (ZD aF cp.le)).Zm ?_
     rintro ac bH cC ⟨rfl,cW⟩
     have iu:=cW.le
     have fg:W X bH j=zD [.zF, .zF, .Z 0] 3:=by rw[cW.ab _ Zo];exact cI
     have d1:W X bH aX=zD [.zF, .bool (decide (c=105)), .Z bE] 3:=by rw[cW.ab _ Zo];exact dL
     cases bn:lA ⟨false,decide (c=105),bE⟩with
     |false=>
      have ba:l2 (c::k)=none:=by
       cases ba:l2 (c::k)with
       |none=>rfl
       |some t=>
        obtain⟨_,n,H,M,al,rfl⟩:=M1 ba xO
        obtain⟨cE,cA,dT,fG⟩:=L6 (by omega:n<100)
        rw[al]at cE cA dT fG
        have:=(af cE cA dT).2
        rw[fG]at this
        subst this
        simp[lA]at bn
        omega
      rw[ba]
      refine cj (bG fg) ⟨?_⟩
      exact⟨rfl,br.set (cp.trans cW) Zo aF Zo⟩
     |true=>
      have cx:1<=bE/\bE<=64:=by simpa[lA]using bn
      obtain⟨n,rfl⟩:=Ye (by omega:0<=bE)
      refine cj (bG d1) ⟨?_⟩
      refine(aCJ (j:=cC) (h:=bH) aw.todk ⟨false,decide (c=105),(n:Int)⟩ Zo).Zm ?_
      rintro ac bN ci ⟨rfl,dW⟩
      have iP:=dW.le
      have ew:W X bN j=zD [.zF, .zF, .Z 0] 3:=by rw[dW.ab _ Zo];exact fg
      have gu:W X bN aX=zD [.zF, .bool (decide (c=105)), .Z (n:Int)] 3:=by rw[dW.ab _ Zo];exact d1
      have E4:oa ⟨false,decide (c=105),(n:Int)⟩=c::j8 n:=by
       rcases aA with rfl|rfl<;>simp[oa,bn]<;>simp_all
      have KT:=(cp.trans cW).trans dW
      by_cases az:j8 n=k
      ·have ba:l2 (c::k)=some ⟨false,decide (c=105),(n:Int)⟩:=by
        cases ba:l2 (c::k)with
        |none=>exact absurd az (ajW ba aA Zo Zo)
        |some t=>
         obtain⟨_,aS,H,M,al,rfl⟩:=M1 ba xO
         obtain⟨cE,cA,dT,fG⟩:=L6 (by omega:n<100)
         obtain⟨_,_,_,m8⟩:=L6 (by omega:aS<100)
         rw[al, <-az,fG]at m8
         rw[m8]
       have ht:decide (oa ⟨false,decide (c=105),(n:Int)⟩≠c::k)=false:=by rw[E4,az];simp
       rw[ba]
       refine cS @ht (bG gu) ⟨?_⟩
       refine⟨rfl,br.set KT Zo aF Zo⟩
      ·have ba:l2 (c::k)=none:=by
        cases ba:l2 (c::k)with
        |none=>rfl
        |some t=>
         obtain⟨_,aS,H,M,al,rfl⟩:=M1 ba xO
         obtain⟨cE,cA,dT,fG⟩:=L6 (by omega:aS<100)
         rw[al]at cE cA dT fG
         have:=(af cE cA dT).2
         rw[fG]at this
         have:n=aS:=Zo
         subst this
         exact absurd al az
       have ht:decide (oa ⟨false,decide (c=105),(n:Int)⟩≠c::k)=true:=by rw[E4];simp[az]
       rw[ba]
       refine cj @ht ⟨?_⟩
       exact⟨rfl,br.set KT Zo aF Zo⟩
    ·have ba:l2 (c::k)=none:=by
      cases ba:l2 (c::k)with
      |none=>rfl
      |some t=>
       obtain⟨_,n,H,M,al,rfl⟩:=M1 ba xO
       obtain⟨cE,cA,dT,fG⟩:=L6 (by omega:n<100)
       rw[al]at cE cA dT fG
       exact absurd (af cE cA dT).1 Zs
     rw[ba]
     refine cj @ah7 ⟨?_⟩
     exact⟨rfl,br.set cp Zo aF Zo⟩
  ·have e2:decide ((c:Int)≠117)=true:=zP
   have jh:decide ((c:Int)≠105)=true:=zP
   refine f3 @d @cM @dA @e2 @jh ⟨?_⟩
   have ba:l2 (c::k)=none:=by rw[Q9];rw[Zg xO,Zg aA]
   rw[ba]
   exact⟨rfl,dH⟩
end
def Dj(w:Int):Int:=(18446744073709551615:Int).fdiv (2^(min (64-w).toNat 64))
def J5(x e:Int):Int:=qu .u64 ((BitVec.ofInt 64 x&&& ~~~ BitVec.ofInt 64 e).toNat)
def Fm(t:d3)(n:Int):Bool:=lA t&&decide (J5 n (Dj t.w)=0)
def wy(t:d3)(n:Int):Bool:=if t.s then(if t.w-1=0 then decide (n=0)else Fm ⟨false,false,t.w-1⟩ n)else Fm t n
def wS:List aR:=[[110,111,100,101],[114,101,116,117,114,110,115],[118,97,114],[108,101,116],[116,101,108],[119,104,101,110],[110,111,116],[112,114,101],[102,98,121],[109,101,114,103,101],
 [105,102],[116,104,101,110],[101,108,115,101],[97,110,100],[111,114],[120,111,114],[116,114,117,101],[102,97,108,115,101]]
structure Ns(X:ca):Prop where
 at_:∃v,∀h,aU X h (.ptr 1 0)=some v/\∀s:aR,n3 X h 9 .zF v (.str s) false=some (.bool (decide (s∈wS)))
section
variable{X:ca}{h R aQ aP:S ag}{j an aV aX gw:Nat}{s:aR}{i:Nat}
def aCc(aw:dk X)(dZ:Ns X)(s:aR):a2 X 68 [.str s] h j (λac R an=>ac= .bool (decide (s∈wS))/\R=h/\an=j) zL:=by
 refine zG aw (anN X) ?_
 rw[anO]
 unfold abg
 obtain⟨v,bD⟩:=dZ.at_
 obtain⟨H,M⟩:=bD h
 have al:=M s
 refine cS @H @al ⟨?_⟩
 exact⟨rfl,rfl,rfl⟩
def aAV(aw:dk X)(t:d3)(ba:1<=t.w/\t.w<=64)(aF:(o X).a8<=j):a2 X 117 [.agg (eE t)] h j (λac R an=>ac= .int .u64 (Dj t.w)/\br X h j R an) zL:=by
 refine zG aw (aln X) ?_
 rw[alo]
 unfold ν eE
 have bC:bv .sub (.Z 64) (.Z t.w)=some (.Z (64-t.w)):=x7 Zo Zo
 have cu:bv .shr (.int .u64 18446744073709551615) (.Z (64-t.w))=some (.int .u64 (Dj t.w)):=by
  have:decide ((64-t.w)<0)=false:=zO
  simp only[bv,mc,fo,J3,vf,this,lo,p9,HA]
  rfl
 refine cS @bC @cu ⟨?_⟩
 exact⟨rfl,dH⟩
def Qc{t:d3}(a:lA t=true):1<=t.w/\t.w<=64:=by
 unfold lA at a
 split at a<;>simp at a<;>omega
def ag7(aw:dk X)(t:d3)(n:Int)(aF:(o X).a8<=j):a2 X 92 [.agg (eE t), .int .u64 n] h j (λac R an=>ac= .bool (Fm t n)/\br X h j R an) zL:=by
 refine zG aw (aox X) ?_
 rw[aoy]
 unfold abJ
 have ba:eE t=[.bool t.b, .bool t.s, .Z t.w]:=rfl
 rw[ba]
 refine cL ⟨?_⟩
 refine e0 (λaQ=>W X aQ j=zD [.bool t.b, .bool t.s, .Z t.w] 3/\br X h j aQ (j+1)) ⟨bh aF,dH⟩ ?_
 rintro aQ ⟨bP,bL⟩
 refine(FF aw t Zo).Zm ?_
 rintro ac aP aX ⟨rfl,bI⟩
 have fN:=bI.le
 have bY:=bL.trans bI
 have b2:W X aP j=zD [.bool t.b, .bool t.s, .Z t.w] 3:=by rw[bI.ab _ Zo];exact bP
 cases bn:lA t with
 |false=>
  refine cL ⟨?_⟩
  exact⟨by simp[Fm,bn],bY⟩
 |true=>
  refine cj (bG b2) ⟨?_⟩
  refine(aAV (j:=aX) (h:=aP) aw t (Qc bn) Zo).Zm ?_
  rintro ac a6 bz ⟨rfl,cp⟩
  have bC:bv .andNot (.int .u64 n) (.int .u64 (Dj t.w))=some (.int .u64 (J5 n (Dj t.w))):=by
   simp only[bv,mc,lo,mJ,fo,l4,lT,HA];rfl
  refine cj @bC ⟨?_⟩
  exact⟨by simp[Fm,bn],bY.trans cp⟩
def awk(aw:dk X)(t:d3)(ba:lA t=true)(n:Int)(aF:(o X).a8<=j):a2 X 67 [.agg (eE t), .int .u64 n] h j (λac R an=>ac= .bool (wy t n)/\br X h j R an) zL:=by
 refine zG aw (anL X) ?_
 rw[anM]
 unfold abf
 have bb:=Qc ba
 have gL:eE t=[.bool t.b, .bool t.s, .Z t.w]:=rfl
 rw[gL]
 have bC:bv .sub (.Z t.w) (.Z 1)=some (.Z (t.w-1)):=x7 Zo Zo
 cases kW:t.s with
 |false=>
  refine cL ⟨?_⟩
  refine e0 (λaQ=>br X h j aQ (j+1)) dH ?_
  intro aQ bL
  have:=ag7 (j:=j+1) (h:=aQ) aw t n Zo
  rw[gL,kW]at this
  refine this.Zm ?_
  rintro ac aP aX ⟨rfl,bI⟩
  refine cL ⟨?_⟩
  exact⟨by simp[wy,kW],bL.trans bI⟩
 |true=>
  by_cases aK:t.w-1=0
  ·have d:decide (t.w-1=0)=true:=by simp[aK]
   refine cS @bC @d ⟨?_⟩
   refine gm (jG (u:=3) (b:=j) (T:=0) (n:=3) (c:=S.ofList [.bool t.b, .zT, .Z t.w] 0 .nil) (bh aF) Zo rfl Zd Zd rfl) ?_
   refine cj @d ⟨?_⟩
   exact⟨by simp[wy,kW,aK],dH⟩
  ·have d:decide (t.w-1=0)=false:=by simp[aK]
   refine cS @bC @d ⟨?_⟩
   refine gm (jG (u:=3) (b:=j) (T:=0) (n:=3) (c:=S.ofList [.bool t.b, .zT, .Z t.w] 0 .nil) (bh aF) Zo rfl Zd Zd rfl) ?_
   refine cj @d ⟨?_⟩
   refine e0 (λaQ=>br X h j aQ (j+1)) dH ?_
   intro aQ bL
   refine(ag7 (j:=j+1) (h:=aQ) aw ⟨false,false,t.w-1⟩ n Zo).Zm ?_
   rintro ac aP aX ⟨rfl,bI⟩
   refine cL ⟨?_⟩
   exact⟨by simp[wy,kW,aK],bL.trans bI⟩
end
def vm(s:aR)(i:Nat):Tok×Bool:=
 let w:=(s.drop i).takeWhile jB
 (⟨if (l2 w).isSome then 3 else if w∈wS then 2 else 1,w,0,0,(l2 w).getD dQ⟩,decide (w.length<=32))
def aii{k:aR}(a:∀c∈k,jB c=true):DR k:=by
 intro c aA
 have:=a c aA
 simp[jB,rO,jn]at this
 omega
def ajH{α:Type}(p:α->Bool):∀k:List α,∀c∈k.takeWhile p,p c=true:=by
 intro k
 induction k with
 |nil=>simp
 |cons F k ah=>
  intro c aA
  rw[YD]at aA
  split at aA
  ·rcases Zu.1 aA with rfl|aA
   ·assumption
   ·exact ah c aA
  ·simp at aA
section
variable{X:ca}{h R aQ aP:S ag}{j an aV aX gw:Nat}{s:aR}{i:Nat}
def Wx(Y:nO X h gw s i)(aj:∀c∈s,c<256)(V:Nat)(p:Nat->Bool)(ay:∀c,p c=true->jB c=true):((s.drop V).takeWhile p).length<=65536/\(∀c∈(s.drop V).takeWhile p,c<256)/\DR ((s.drop V).takeWhile p):=by
 have H:=Gj p (s.drop V)
 rw[Yy]at H
 have:=Y.many
 refine⟨Zo,λc aA=>aj c (zb ((List.takeWhile_sublist p).subset aA)),aii λc aA=>ay c (ajH p _ c aA)⟩
def aE6(aw:jd X)(bY:mi X)(dZ:Ns X)(Y:nO X h gw s i)(aj:∀c∈s,c<256)(aF:(o X).a8<=j)(LL:gw<j):
 a2 X 43 [.ptr gw 0] h j (λac R an=>ac= .tuple [.agg (cg (vm s i).1), .bool (vm s i).2]/\br X h j R an) zL:=by
 refine zG aw.todk (amX X) ?_
 rw[amY]
 unfold aaP
 have c5:=Y.c5
 have iy:=Y.cb
 obtain⟨cE,cA,dT⟩:=Wx Y aj i jB (λ_ a=>a)
 have qU:∀cT,nO X (bm X h j cT) gw s i:=λcT=>Y.ab (aI aF Zo)
 refine cj @c5 ⟨?_⟩
 refine(QQ aw.todk (ajd aw.todk) (qU _) Y.le).Zm ?_
 rintro ac aP aX ⟨rfl,rfl,rfl⟩
 unfold vm
 generalize (s.drop i).takeWhile jB=w at*
 simp only[]
 refine cL ⟨?_⟩
 refine e0 (λaQ=>W X aQ j=zD [.Z 0, .str [], .Z 0, .int .u64 0, .zF, .zF, .Z 0] 7/\W X aQ (j+1)=zD [.Z 1, .str w, .Z 0, .int .u64 0, .zF, .zF, .Z 0] 7/\br X h j aQ (j+1+1)) ⟨by exact zQ,by rw[bh Zo];rfl,dH⟩ ?_
 rintro aQ ⟨bP,b2,bL⟩
 refine(ajV aw bY cE cA dT Zo).Zm ?_
 rintro ac a6 bz ⟨rfl,cp⟩
 have jm:=cp.le
 have tK:=bL.trans cp
 have cI:W X a6 j=zD [.Z 0, .str [], .Z 0, .int .u64 0, .zF, .zF, .Z 0] 7:=by rw[cp.ab _ Zo];exact bP
 have dL:W X a6 (j+1)=zD [.Z 1, .str w, .Z 0, .int .u64 0, .zF, .zF, .Z 0] 7:=by rw[cp.ab _ Zo];exact b2
 generalize ba:(l2 w).getD dQ=t
 have sM:eE t=[.bool t.b, .bool t.s, .Z t.w]:=rfl
 rw[sM]
 have Aa:decide ((w.length:Int)<=32)=decide (w.length<=32):=by simp;omega
 have fin:∀(b6:S ag) (dr:Nat) (u:Int) (eB:d3) (vP:S E),bz<=dr->br X h j b6 dr->W X b6 (j+1)=some (.cells vP 7 .own)->W X b6 j=zD [.Z 0, .str [], .Z 0, .int .u64 0, .zF, .zF, .Z 0] 7->
  vP.get 0=some (.Z u)->vP.get 1=some (.str w)->vP.get 2=some (.Z 0)->vP.get 3=some (.int .u64 0)->vP.get 4=some (.bool eB.b)->vP.get 5=some (.bool eB.s)->vP.get 6=some (.Z eB.w)->
  ar (dE X b6 7 (.ptr (j+1) 0)) λaEz=>ar (nz (.str w)) λaEA=>ar (bv .leq aEA (.Z 32)) λaEB=>ar (fT X b6 7 (.ptr j 0) aEz) λabU=>ar (dE X abU 7 (.ptr j 0)) λv37=>
   E.tuple [v37,aEB]= .tuple [.agg (cg ⟨u,w,0,0,eB⟩), .bool (decide (w.length<=32))]/\br X h j abU dr:=by
  intro b6 dr u eB vP aGv ec d1 ew wE bR cm cX d4 dN dc
  have ft:=kE d1 wE;have en:=kE d1 bR;have cZ:=kE d1 cm;have eW:=kE d1 cX;have hn:=kE d1 d4;have gM:=kE d1 dN;have ny:=kE d1 dc
  refine eh @ft @en @cZ @eW @hn @gM (Za @ny @Aa) ⟨?_⟩
  exact⟨rfl,br.set ec (Zj _) aF (Zj _)⟩
 cases tU:(l2 w).isSome with
 |true=>
  refine iq ⟨?_⟩
  refine iq ⟨?_⟩
  refine iq ⟨?_⟩
  refine iq ⟨?_⟩
  refine iq ⟨?_⟩
  generalize e5:bm X _ bz _=bH
  have fg:W X bH bz=zD [.bool t.b, .bool t.s, .Z t.w] 3:=by rw[<-e5,bh Zo];rfl
  have d1:W X bH j=zD [.Z 0, .str [], .Z 0, .int .u64 0, .zF, .zF, .Z 0] 7:=by rw[<-e5];simp(disch:=omega) only[aI];exact cI
  have ew:W X bH (j+1)=zD [.Z 1, .str w, .Z 0, .int .u64 0, .zF, .zF, .Z 0] 7:=by rw[<-e5];simp(disch:=omega) only[aI];exact dL
  have cW:br X h j bH (bz+1):=tK.trans (by rw[<-e5];exact dH)
  clear e5 cI dL
  refine cj (bG fg) ⟨?_⟩
  refine gP (by simp[E.same,oI,pt]) ?_
  generalize hZ:bm X bH (j+1) _=bN
  have bw:∀e,e≠j+1->W X bN e=W X bH e:=λe z=>by rw[<-hZ,aI Zo z]
  have gu:W X bN (j+1)=some (.cells (d7 (S.ofList [.Z 1, .str w, .Z 0, .int .u64 0, .zF, .zF, .Z 0] 0 .nil) 0 [.Z 3]) 7 .own):=by rw[<-hZ,bh Zo];rfl
  rw[<-bw _ Zo]at fg d1
  have dW:br X h j bN (bz+1):=⟨cW.le,λe z=>by rw[bw e Zo];exact cW.ab e z⟩
  clear hZ bw ew
  refine gm (jG (u:=3) (b:=j+1) (T:=4) (n:=7) gu Zo rfl Zd Zd rfl) ?_
  generalize gS:bm X bN (j+1) _=b6
  have b1:∀e,e≠j+1->W X b6 e=W X bN e:=λe z=>by rw[<-gS,aI Zo z]
  have nk:W X b6 (j+1)=some (.cells (d7 (d7 (S.ofList [.Z 1, .str w, .Z 0, .int .u64 0, .zF, .zF, .Z 0] 0 .nil) 0 [.Z 3]) 4 [.bool t.b, .bool t.s, .Z t.w]) 7 .own):=by rw[<-gS,bh Zo];rfl
  rw[<-b1 _ Zo]at d1
  have ec:br X h j b6 (bz+1+5):=⟨zz dW.le,λe z=>by rw[b1 e Zo];exact dW.ab e z⟩
  clear gS b1 gu
  have:=fin b6 (bz+1+5) 3 t _ Zo ec nk d1 rfl rfl rfl rfl rfl rfl rfl
  simp only[ZG]
  refine iq ⟨?_⟩
  exact this
 |false=>
  have Vx:t=dQ:=by
   rw[<-ba]
   cases bM:l2 w with
   |none=>rfl
   |some t=>rw[bM]at tU;cases tU
  refine cL ⟨?_⟩
  refine e0 (λbH=>br X a6 bz bH (bz+1)) dH ?_
  intro bH cW
  have Ap:=tK.trans cW
  have d1:W X bH j=zD [.Z 0, .str [], .Z 0, .int .u64 0, .zF, .zF, .Z 0] 7:=by rw[cW.ab _ Zo];exact cI
  have ew:W X bH (j+1)=zD [.Z 1, .str w, .Z 0, .int .u64 0, .zF, .zF, .Z 0] 7:=by rw[cW.ab _ Zo];exact dL
  refine(aCc (j:=bz+1) (h:=bH) aw.todk dZ w).Zm ?_
  rintro ac bN ci ⟨rfl,rfl,rfl⟩
  subst Vx
  simp only[Zw,ZB]
  by_cases lb:w∈wS
  ·simp only[lb,YG,ZG]
   refine iq ⟨?_⟩
   refine iq ⟨?_⟩
   refine iq ⟨?_⟩
   refine gm (jG (u:=1) (b:=j+1) (T:=0) (n:=7) ew Zo rfl Zd Zd rfl) ?_
   generalize gS:bm X _ (j+1) _=b6
   have b1:∀e,e≠j+1->W X b6 e=W X bN e:=λe z=>by rw[<-gS,aI Zo z]
   have nk:W X b6 (j+1)=some (.cells (d7 (S.ofList [.Z 1, .str w, .Z 0, .int .u64 0, .zF, .zF, .Z 0] 0 .nil) 0 [.Z 2]) 7 .own):=by rw[<-gS,bh Zo];rfl
   rw[<-b1 _ Zo]at d1
   have ec:br X h j b6 (bz+1):=⟨Ap.le,λe z=>by rw[b1 e Zo];exact Ap.ab e z⟩
   have:=fin b6 (bz+1) 2 dQ _ Zo ec nk d1 rfl rfl rfl rfl rfl rfl rfl
   refine iq ⟨?_⟩
   exact this
  ·simp only[lb,Yl,ZB]
   have:=fin bN (bz+1) 1 dQ _ Zo Ap ew d1 rfl rfl rfl rfl rfl rfl rfl
   refine iq ⟨?_⟩
   refine iq ⟨?_⟩
   refine iq ⟨?_⟩
   exact this
end
def FO(s:aR)(i:Nat):Option Tok:=
 let d:=(s.drop i).takeWhile jn
 if (lg d).2≠0\/20<d.length then none
 else
  let Xc:=(s.drop (i+d.length)).takeWhile jB
  if Xc=[]then some ⟨4,d,0,(lg d).1,dQ⟩
  else match l2 Xc with
   |some t=>if !t.b&&wy t (lg d).1 then some ⟨5,d++Xc,0,(lg d).1,t⟩else none
   |none=>none
def XG:∀{w:aR}{t:d3},l2 w=some t->lA t=true:=by
 intro w t a
 cases w with
 |nil=>cases a
 |cons c k=>
  by_cases aj:c::k=[98,111,111,108]
  ·rw[Q9,Zp aj]at a
   cases a
   rfl
  ·obtain⟨_,n,H,M,_,rfl⟩:=M1 a aj
   simp[lA];omega
section
variable{X:ca}{h R aQ aP:S ag}{j an aV aX gw:Nat}{s:aR}{i:Nat}
def aAv(aw:jd X)(bY:mi X)(Y:nO X h gw s i)(aj:∀c∈s,c<256)(aF:(o X).a8<=j)(LL:gw<j):
 a2 X 41 [.ptr gw 0] h j (λac R an=>(∃u,ac= .tuple [.agg (cg u), .bool (FO s i).isSome]/\∀x,FO s i=some x->u=x)/\br X h j R an) zL:=by
 refine zG aw.todk (amT X) ?_
 rw[amU]
 unfold aaN
 have c5:=Y.c5
 have iy:=Y.cb
 have k9:=Y.le
 have aGP:=Y.many
 obtain⟨cE,cA,dT⟩:=Wx Y aj i jn (λc a=>by simp[jB,a])
 have pr:=Gj jn (s.drop i)
 rw[Yy]at pr
 have qU:∀cT,nO X (bm X h j cT) gw s i:=λcT=>Y.ab (aI aF Zo)
 refine cj @c5 ⟨?_⟩
 refine(QQ aw.todk (aCq aw.todk) (qU _) Y.le).Zm ?_
 rintro ac aP aX ⟨rfl,rfl,rfl⟩
 generalize jw:FO s i=N
 unfold FO at jw
 simp only[]at jw
 generalize (s.drop i).takeWhile jn=d at*
 refine cL ⟨?_⟩
 refine e0 (λaQ=>W X aQ j=zD [.Z 0, .str [], .Z 0, .int .u64 0, .zF, .zF, .Z 0] 7/\br X h j aQ (j+1)) ⟨by exact zQ,dH⟩ ?_
 rintro aQ ⟨bP,bL⟩
 refine(aBj aw bY cE cA Zo).Zm ?_
 rintro ac a6 bz ⟨⟨D,rfl,bA⟩,cp⟩
 have jm:=cp.le
 have tK:=bL.trans cp
 have cI:W X a6 j=zD [.Z 0, .str [], .Z 0, .int .u64 0, .zF, .zF, .Z 0] 7:=by rw[cp.ab _ Zo];exact bP
 have AS:=Y.ab (tK.ab gw LL)
 have aHw:E.agg [.Z 0, .str [], .Z 0, .int .u64 0, .zF, .zF, .Z 0]= .agg (cg hr):=rfl
 rcases bA with ⟨aK,rfl⟩|⟨aK,b,rfl⟩
 ·by_cases eM:20<d.length
  ·rw[Zp (.inr eM)]at jw
   subst jw
   have c2:decide ((20:Int)<(d.length:Int))=true:=zP
   refine cS @FJ @c2 ⟨?_⟩
   exact⟨⟨hr,rfl,λx a=>by cases a⟩,br.set tK Zo aF Zo⟩
  have c2:decide ((20:Int)<(d.length:Int))=false:=zO
  rw[Zg (by rintro(a|a);exact a aK;exact eM a)]at jw
  have ge:=AS.c5
  have bC:bv .add (.Z (i:Int)) (.Z (d.length:Int))=some (.Z ((i+d.length:Nat):Int)):=by rw[eI Zo Zo];rfl
  refine gk @FJ @c2 @ge @bC ⟨?_⟩
  refine(QQ aw.todk (ajd aw.todk) AS Zo).Zm ?_
  rintro ac bH cC ⟨rfl,rfl,rfl⟩
  obtain⟨fF,h5,yn⟩:=Wx AS aj (i+d.length) jB (λ_ a=>a)
  generalize (s.drop (i+d.length)).takeWhile jB=w at*
  by_cases bb:w=[]
  ·have cM:decide (w=[])=true:=by simp[bb]
   rw[Zp bb]at jw
   subst jw
   refine cj @cM ⟨?_⟩
   exact⟨⟨⟨4,d,0,(lg d).1,dQ⟩,rfl,λx a=>by cases a;rfl⟩,br.set tK Zo aF Zo⟩
  have cM:decide (w=[])=false:=by simp[bb]
  rw[Zg bb]at jw
  refine cj @cM ⟨?_⟩
  refine(ajV aw bY fF h5 yn Zo).Zm ?_
  rintro ac bN ci ⟨rfl,dW⟩
  have iP:=dW.le
  have fg:W X bN j=zD [.Z 0, .str [], .Z 0, .int .u64 0, .zF, .zF, .Z 0] 7:=by rw[dW.ab _ Zo];exact cI
  have Ey:=tK.trans dW
  generalize ba:(l2 w).getD dQ=t
  have sM:eE t=[.bool t.b, .bool t.s, .Z t.w]:=rfl
  rw[sM]
  refine iq ⟨?_⟩
  refine iq ⟨?_⟩
  refine iq ⟨?_⟩
  refine iq ⟨?_⟩
  refine iq ⟨?_⟩
  generalize gS:bm X _ ci _=b6
  have d1:W X b6 ci=zD [.bool t.b, .bool t.s, .Z t.w] 3:=by rw[<-gS,bh Zo];rfl
  have ew:W X b6 j=zD [.Z 0, .str [], .Z 0, .int .u64 0, .zF, .zF, .Z 0] 7:=by rw[<-gS];simp(disch:=omega) only[aI];exact fg
  have ec:br X h j b6 (ci+1):=Ey.trans (by rw[<-gS];exact dH)
  clear gS fg cI bP
  have uM:∀h,db X h .add 9 false (.str d) (.str w)=some (.str (d++w)):=λh=>by
   have:Nat.ble (d.length+w.length) 1000000000=true:=j3 Zo
   simp only[db,BT,this,fo]
  have Xl:∀ai:Prop,ai->gO (.str (d++w)) (some (.str (d++w))) ai:=λai a=>gP (by simp[E.same,Ba]) a
  have MQ:∀ai:Prop,ai->gO (.agg [.bool t.b, .bool t.s, .Z t.w]) (some (.agg [.bool t.b, .bool t.s, .Z t.w])) ai:=λai a=>gP (by simp[E.same,oI,pt]) a
  have fD:cg ⟨5,d++w,0,(lg d).1,t⟩=[.Z 5, .str (d++w), .Z 0, .int .u64 (lg d).1, .bool t.b, .bool t.s, .Z t.w]:=rfl
  cases tU:l2 w with
  |none=>
   rw[tU]at jw
   simp only[]at jw
   subst jw
   simp only[Z3]
   refine cS @uM (bG d1) ⟨?_⟩
   refine Xl _ ?_
   refine cS @uM (bG d1) ⟨?_⟩
   refine MQ _ ?_
   refine cL ⟨?_⟩
   refine⟨⟨⟨5,d++w,0,(lg d).1,t⟩, ?_,λx a=>by cases a⟩,br.set ec Zo aF Zo⟩
   rw[fD]
  |some eB=>
   have PQ:eB=t:=by rw[tU]at ba;exact ba
   subst PQ
   have avW:=XG tU
   rw[tU]at jw
   simp only[]at jw
   cases lv:eB.b with
   |true=>
    rw[lv]at jw d1 fD MQ
    simp only[Yw,Bool.false_and,Zw,ZB]at jw
    subst jw
    simp only[Z3,Ya]
    refine cS @uM (bG d1) ⟨?_⟩
    refine Xl _ ?_
    refine cS @uM (bG d1) ⟨?_⟩
    refine MQ _ ?_
    refine cL ⟨?_⟩
    refine⟨⟨⟨5,d++w,0,(lg d).1,eB⟩, ?_,λx a=>by cases a⟩,br.set ec Zo aF Zo⟩
    rw[fD]
   |false=>
    rw[lv]at jw d1 fD MQ
    simp only[Yx,zk]at jw
    simp only[Ya]
    refine cS @uM (bG d1) ⟨?_⟩
    have aA:=awk (j:=ci+1+19) (h:=b6) aw.todk eB avW ((lg d).1:Int) Zo
    have axc:eE eB=[.zF, .bool eB.s, .Z eB.w]:=by unfold eE;rw[lv]
    rw[axc]at aA
    refine aA.Zm ?_
    rintro ac cy dX ⟨rfl,eC⟩
    have nr:=eC.le
    have gu:W X cy ci=zD [.zF, .bool eB.s, .Z eB.w] 3:=by rw[eC.ab _ Zo];exact d1
    have nk:W X cy j=zD [.Z 0, .str [], .Z 0, .int .u64 0, .zF, .zF, .Z 0] 7:=by rw[eC.ab _ Zo];exact ew
    have OE:br X h j cy dX:=⟨zz ec.le,λe z=>by rw[eC.ab e (zz ec.le)];exact ec.ab e z⟩
    have aul:N.isSome=wy eB ((lg d).1:Int):=by
     rw[<-jw];cases wy eB ((lg d).1:Int)<;>rfl
    rw[aul]
    refine cj @uM ⟨?_⟩
    refine Xl _ ?_
    refine cj (bG gu) ⟨?_⟩
    refine MQ _ ?_
    refine cL ⟨?_⟩
    refine⟨⟨⟨5,d++w,0,(lg d).1,eB⟩, ?_,λx a=> ?_⟩,br.set OE Zo aF Zo⟩
    ·rw[fD]
    ·rw[<-jw]at a
     split at a
     ·cases a;rfl
     ·cases a
 ·rw[Zp (.inl aK)]at jw
  subst jw
  refine cj @ah7 ⟨?_⟩
  exact⟨⟨hr,rfl,λx a=>by cases a⟩,br.set tK Zo aF Zo⟩
end
def Bp:List aR:=[[45,62],[60,60],[62,62],[60,61],[62,61],[60,62],[40],[41],[44],[59],[58],[61],[60],[62],[43],[45],[42]]
structure RF(X:ca):Prop where
 at_:∀h,dE X h 17 (.ptr 0 0)=some (.agg (Bp.map E.str))
def La(s p:aR):Bool:=decide (p.length<=s.length/\s.take p.length=p)
def wU(s:aR)(i:Nat):Option aR:=Bp.find? (La (s.drop i))
def F9(p:aR):Tok:=⟨6,p,0,0,dQ⟩
def adT{α:Type}(p:α->Bool):∀(k:List α) (V:Nat),(∀u<V,∀x,k[u]? =some x->p x=false)->k.find? p=(k.drop V).find? p:=by
 intro k V
 induction V with
 |zero=>intro _;rfl
 |succ V ah=>
  intro a
  rw[ah λu aH=>a u Zo]
  by_cases bF:V<k.length
  ·rw[Zr bF,zl]
   have:=a V Zo k[V] (Ze bF)
   rw[this]
  ·rw[ZC Zo,ZC Zo]
section
variable{X:ca}{h R aQ aP:S ag}{j an aV aX gw:Nat}{s:aR}{i:Nat}
def aC3(aw:jd X)(dZ:RF X)(Y:nO X h gw s i)(aF:(o X).a8<=j)(LL:gw<j):
 a2 X 39 [.ptr gw 0] h j (λac R an=>ac= .tuple [.agg (cg (match wU s i with|some p=>F9 p|none=>hr)), .bool (wU s i).isSome]/\br X h j R an) zL:=by
 refine zG aw.todk (amP X) ?_
 rw[amQ]
 unfold aaK
 have iy:=Y.cb
 have hP:nF (.str s) (some (.Z (i:Int))) none=some (.str (s.drop i)):=QW .i64 Y.le
 have bV:=dZ.at_
 refine cj @bV ⟨?_⟩
 have bP:W X (bm X h j (zD [.Z 0, .str [], .Z 0, .int .u64 0, .zF, .zF, .Z 0] 7)) j=zD [.Z 0, .str [], .Z 0, .int .u64 0, .zF, .zF, .Z 0] 7:=bh aF
 have bL:br X h j (bm X h j (zD [.Z 0, .str [], .Z 0, .int .u64 0, .zF, .zF, .Z 0] 7)) (j+1):=dH
 refine fE (λm I R aS=>∃(V:Nat),I.g 0=some (.ptr gw 0)/\I.g 2=some (.ptr j 0)/\I.g 6=some (.agg (Bp.map E.str))/\I.g 7=some (.Z (V:Int))/\V+m=17/\W X R j=zD [.Z 0, .str [], .Z 0, .int .u64 0, .zF, .zF, .Z 0] 7/\br X h j R aS/\j+1<=aS/\∀u<V,∀x,Bp[u]? =some x->La (s.drop i) x=false)
  17 ⟨0,bo,bo,bo,fY,Zo,bP,bL,Zj _,λu aH=>Zo⟩ ?_
 clear bP bL
 rintro m I aP aX ⟨V,t0,eK,eY,e9,bF,b2,bI,lS,jQ⟩
 have hx:=Y.ab (bI.ab gw LL)
 have dx:=hx.dx
 have c5:=hx.c5
 cases m with
 |zero=>
  have d:decide ((V:Int)<17)=false:=zO
  have b4:wU s i=none:=by
   unfold wU
   rw[adT _ _ V jQ,show Bp.drop V=[] from ZC (by show 17<=V;omega)]
   rfl
  rw[b4]
  refine er @e9 @d @eK ⟨?_⟩
  exact⟨rfl,br.set bI Zo aF Zo⟩
 |succ m=>
  have d:decide ((V:Int)<17)=true:=zP
  have bC:=zE V
  obtain⟨p,ay⟩:∃p,Bp[V]? =some p:=⟨_,Ze (by show V<17;omega)⟩
  have dA:rQ false 17 1 (.agg (Bp.map E.str)) (.Z (V:Int))=some (.str p):=by
   have:Nat.blt V 17=true:=by simp[Nat.blt];omega
   simp only[rQ,rT,this,fo,lo,qi,Z4,Zy,ay];rfl
  refine eh @e9 @eY @t0 @d @dA @dx (Za @c5 @hP) ⟨?_⟩
  refine(aiR aw.todk (s.drop i) p).Zm ?_
  rintro ac a6 bz ⟨rfl,rfl,rfl⟩
  have pf:decide (p.length<=(s.drop i).length/\(s.drop i).take p.length=p)=La (s.drop i) p:=rfl
  rw[pf]
  cases gL:La (s.drop i) p with
  |true=>
   have b4:wU s i=some p:=by
    unfold wU
    obtain⟨af,z⟩:=Zb.1 ay
    have aJ:Bp.drop V=p::Bp.drop (V+1):=by rw[Zr af,z]
    rw[adT _ _ V jQ,aJ,zl,gL]
   rw[b4]
   refine cj @eK ⟨?_⟩
   exact⟨rfl,br.set bI Zo aF Zo⟩
  |false=>
   refine cS @e9 @bC ⟨?_⟩
   refine⟨m,Zo,V+1,aW t0,aW eK,aW eY,bo,Zo,b2,⟨Zo,bI.ab⟩,Zo,λu aH x af=> ?_⟩
   by_cases Pd:u=V
   ·subst Pd;rw[ay]at af;cases af;exact gL
   ·exact jQ u Zo x af
end
def yz(s:aR)(i:Nat):Option Tok:=match s[i]? with
 |none=>none
 |some c=>if jn c then FO s i else if rO c then(if (vm s i).2 then some (vm s i).1 else none)else(wU s i).map F9
def mn(x:Tok)(i:Nat):Tok:=⟨x.kind,x.text,i,x.n,x.ty⟩
def r8(s:aR):Nat->List Tok->Nat->Option (Except Int (List Tok))
 |0,_,_=>none
 |n+1,aZ,i=>if i<s.length then match yz s i with
   |none=>some (.error i)
   |some x=>r8 s n (aZ++[mn x i]) (o3 s s.length (i+x.text.length))
  else some (.ok (aZ++[⟨7,[],i,0,dQ⟩]))
def Si(s:aR):∀(n i:Nat),i<=o3 s n i:=by
 intro n
 induction n with
 |zero=>intro i;exact Zj _
 |succ n ah=>
  intro i
  rw[o3]
  split
  ·exact Zj _
  ·split
   ·exact ZD Zo (ah (i+1))
   ·split
    ·exact ZD Zo (ah _)
    ·exact Zj _
def XC{s:aR}{i:Nat}{x:Tok}(a:yz s i=some x):1<=x.text.length/\i+x.text.length<=s.length:=by
 unfold yz at a
 cases aA:s[i]? with
 |none=>rw[aA]at a;cases a
 |some c=>
  rw[aA]at a
  simp only[]at a
  obtain⟨af,z⟩:=Zb.1 aA
  have aJ:s.drop i=c::s.drop (i+1):=by rw[Zr af,z]
  have az:(s.drop i).length=s.length-i:=Yy
  split at a
  ·rename_i qQ
   have H:=Gj jn (s.drop i)
   have M:1<=((s.drop i).takeWhile jn).length:=by rw[aJ,YD,qQ];simp
   unfold FO at a
   simp only[]at a
   generalize (s.drop i).takeWhile jn=d at*
   split at a
   ·cases a
   ·have al:=Gj jB (s.drop (i+d.length))
    rw[Yy]at al
    split at a
    ·cases a;exact⟨M,by show i+d.length<=_;omega⟩
    ·split at a
     ·split at a
      ·cases a
       refine⟨?_, ?_⟩
       ·show 1<=(d++_).length;rw[ZL];omega
       ·show i+(d++_).length<=_;rw[ZL];omega
      ·cases a
     ·cases a
  ·split at a
   ·rename_i Ax
    have H:=Gj jB (s.drop i)
    have M:1<=((s.drop i).takeWhile jB).length:=by rw[aJ,YD,show jB c=true from by simp[jB,Ax]];simp
    split at a
    ·cases a
     exact⟨M,by show i+((s.drop i).takeWhile jB).length<=_;omega⟩
    ·cases a
   ·simp only[Yj]at a
    obtain⟨p,H,rfl⟩:=a
    have M:=List.find?_some H
    have al:=List.mem_of_find?_eq_some H
    simp[La]at M
    refine⟨?_, ?_⟩
    ·show 1<=p.length
     revert al
     clear H M
     revert p
     decide
    ·show i+p.length<=_;omega
def dV.narrow{C:aN}{h:S ag}{P:Nat->Prop}{b bd:Nat}{aO:E}{be:List (List E)}(a:dV C h P b aO bd be):dV C h (λe=>e=b) b aO bd be:=⟨λ_=>rfl,a.many,a.wide,a.len,a.fx,a.cell⟩
section
variable{X:ca}{h R aQ aP:S ag}{j an aV aX gw:Nat}{s:aR}{i:Nat}
structure JQ(X:ca):Prop where
 err:mi X
 res:Ns X
 sig:RF X
def abW(X:ca)(j:Nat)(r:Except Int (List Tok))(ac:E)(R:S ag)(an:Nat):Prop:=match r with
 | .error F=>ac= .tuple [.aY, .agg [.Z 20, .Z F]]
 | .ok aZ=>∃aq bU,ac= .tuple [aq, .agg [.Z 0, .Z 0]]/\dV X R (λe=>e=bU) bU aq 7 (aZ.map cg)/\j<=bU/\bU<an
def apu(aw:jd X)(dZ:JQ X)(aC:s.length<=65536)(aj:∀c∈s,c<256)(aF:(o X).a8<=j){a0:E}(az:gr a0=some (.Z (s.length:Int)))(AB:∀R aS,br X h j R aS->B5 X R a0=some (.str s))
 {r:Except Int (List Tok)}(Y:r8 s (s.length+1) [] (o3 s s.length 0)=some r):
 a2 X 22 [a0] h j (λac R an=>abW X j r ac R an/\br X h j R an) zL:=by
 refine zG aw.todk (amr X) ?_
 rw[ams]
 unfold aaw
 have hM:decide ((65536:Int)<(s.length:Int))=false:=zO
 have sE:=AB (bm X h j (zD [.Z 0, .Z 0] [E.Z 0, .Z 0].length)) (j+1) dH
 refine cS @az @hM ⟨?_⟩
 refine gm sE ?_
 refine cL ⟨?_⟩
 refine e0 (λaQ=>W X aQ j=zD [.Z 0, .Z 0] 2/\W X aQ (j+1)=zD [.str s, .Z ((0:Nat):Int)] 2/\br X h j aQ (j+1+1)) ⟨by exact zQ,by rw[bh Zo];rfl,dH⟩ ?_
 rintro aQ ⟨bP,b2,bL⟩
 have qU:nO X aQ (j+1) s 0:=⟨b2,Zo,aC,Zo⟩
 refine(acB aw qU aj Zo Zo).Zm ?_
 rintro ac aP aX ⟨hx,dz⟩
 have fN:=dz.le
 have cI:W X aP j=zD [.Z 0, .Z 0] 2:=by rw[dz.ab _ Zo Zs];exact bP
 have bI:br X h j aP aX:=⟨Zo,λe z=>by rw[dz.ab e Zo Zx];exact bL.ab e z⟩
 refine g3 ?_
 refine fE (λm I R aS=>∃(aO:E) (aZ:List Tok) (cv:List Nat) (V:Nat),I.g 3=some (.ptr j 0)/\I.g 4=some (.ptr (j+1) 0)/\I.g 5=some aO/\W X R j=zD [.Z 0, .Z 0] 2/\nO X R (j+1) s V/\ga X R aO 7 (aZ.map cg).flatten cv/\(∀e∈cv,j+2<=e/\e<aS)/\br X h j R aS/\j+2<=aS/\aZ.length<=V/\r8 s m aZ V=some r)
  (s.length+1) ⟨.aY,[],[],_,bo,bo,bo,cI,hx, .inl (.inl ⟨rfl,rfl,rfl⟩),Zs,bI,Zo,Zs,Y⟩ ?_
 clear Y bP b2 cI qU hx bL bI dz fN sE
 rintro m I aP aX ⟨aO,aZ,cv,V,t3,t4,t5,b2,hx,t7,nY,bI,lS,aGR,Y⟩
 have dx:=hx.dx
 have c5:=hx.c5
 have wp:=hx.le
 cases m with
 |zero=>cases Y
 |succ m=>
 rw[r8]at Y
 have afN:∀r∈aZ.map cg,r.length=7:=λr a=>by obtain⟨x,_,rfl⟩:=ZE.1 a;rfl
 have mC:=tE afN
 rw[Zi]at mC
 have acj:∀(a6:S ag) (bz b:Nat) (x:Tok),(∀e∈cv,W X a6 e=W X aP e)->aX<=bz->W X a6 b=zD (cg x) 7->
  ∃lh bH gK,j1 X a6 bz 7 aO (.slice b 0 1 1)=some (.fH lh bH (bz+1))/\lm X bH lh 7 ((aZ++[x]).map cg).flatten gK/\(∀e∈gK,e=bz\/e∈cv)/\∀e,e≠bz->e∉cv->W X bH e=W X a6 e:=by
  intro a6 bz b x aH ww OQ
  have kV:lZ X a6 7 (.slice b 0 1 1)=some (1,cg x):=s2 OQ (nu _) rfl _
  obtain⟨lh,bH,gK,H,M,al,aB⟩:=(t7.ab aH).append (j:=bz) Zd kV rfl Zd rfl (by rw[mC,show(cg x).length=7 from rfl];omega) Zo (λe z=>zz (nY e z))
  refine⟨lh,bH,gK,H, ?_,al,aB⟩
  rw[ZW,YN,ZJ,List.map_nil,Yp,List.flatten_nil,Yh]
  exact M
 by_cases bF:V<s.length
 ·have c2:=zB V s.length
  rw[Zp bF]at Y
  obtain⟨c,aA⟩:∃c,s[V]? =some c:=⟨_,Ze bF⟩
  have dA:=CS .i64 aA
  have OV:=aj c (Zl aA)
  refine hl @t4 @dx (Za @c5 (Za @c2 @dA)) ⟨?_⟩
  refine g3 ?_
  refine hl @t4 @dx (Za @c5 (Za @c2 @dA)) ⟨?_⟩
  refine g3 ?_
  refine hl @t4 @dx (Za @c5 (Za @c2 @dA)) ⟨?_⟩
  have rd:∀(u:Nat),(jn c=true->u=41)->(jn c=false->rO c=true->u=43)->(jn c=false->rO c=false->u=39)->∀I2,aX<=I2->
   a2 X u [.ptr (j+1) 0] aP I2 (λac R aS=>(∃x,ac= .tuple [.agg (cg x), .bool (yz s V).isSome]/\∀e,yz s V=some e->x=e)/\br X aP I2 R aS) zL:=by
   intro u bR cm cX I2 af7
   unfold yz
   rw[aA]
   simp only[]
   cases qQ:jn c with
   |true=>
    rw[bR qQ]
    simp only[ZG]
    exact aAv aw dZ.err hx aj Zo Zo
   |false=>
    simp only[Zw,ZB]
    cases Ax:rO c with
    |true=>
     rw[cm qQ Ax]
     simp only[ZG]
     refine(aE6 aw dZ.err dZ.res hx aj Zo Zo).Zm ?_
     rintro ac R aS ⟨rfl,bY⟩
     refine⟨⟨(vm s V).1, ?_,λe a=> ?_⟩,bY⟩
     ·cases(vm s V).2<;>rfl
     ·split at a
      ·cases a;rfl
      ·cases a
    |false=>
     rw[cX qQ Ax]
     simp only[Zw,ZB]
     refine(aC3 aw dZ.sig hx Zo Zo).Zm ?_
     rintro ac R aS ⟨rfl,bY⟩
     refine⟨⟨(match wU s V with|some p=>F9 p|none=>hr), ?_,λe a=> ?_⟩,bY⟩
     ·cases wU s V<;>rfl
     ·cases bM:wU s V with
      |none=>rw[bM]at a;cases a
      |some p=>rw[bM]at a;cases a;rfl
  refine ko (λda R aS=>∃u,da.g 3=some (.ptr j 0)/\da.g 4=some (.ptr (j+1) 0)/\da.g 5=some aO/\da.g 6=some (.func (.func u) [.ptr (j+1) 0] [])/\R=aP/\aX<=aS/\(jn c=true->u=41)/\(jn c=false->rO c=true->u=43)/\(jn c=false->rO c=false->u=39)) (λaG9 UO=> ?_) ?_
  ·refine(SP aw.todk c).Zm ?_
   rintro ac a6 bz ⟨rfl,rfl,rfl⟩
   cases qQ:jn c with
   |true=>
    refine cj @t4 ⟨?_⟩
    exact UO _ _ _ ⟨41,aW t3,aW t4,aW t5,bo,rfl,Zo,λ_=>rfl,(λa=>absurd a (by simp[qQ])),(λa=>absurd a (by simp[qQ]))⟩
   |false=>
    refine cj @t4 ⟨?_⟩
    refine(acy aw.todk c).Zm ?_
    rintro ac a6 bz ⟨rfl,rfl,rfl⟩
    cases Ax:rO c with
    |true=>
     refine cj @t4 ⟨?_⟩
     exact UO _ _ _ ⟨43,aW t3,aW t4,aW t5,bo,rfl,Zo,(λa=>absurd a (by simp[qQ])),λ_ _=>rfl,(λ_ a=>absurd a (by simp[Ax]))⟩
    |false=>
     refine cj @t4 ⟨?_⟩
     exact UO _ _ _ ⟨39,aW t3,aW t4,aW t5,bo,rfl,Zo,(λa=>absurd a (by simp[qQ])),(λ_ a=>absurd a (by simp[Ax])),λ_ _=>rfl⟩
  clear t3 t4 t5
  rintro aFq a6 bz ⟨u,t3,t4,t5,eY,rfl,ww,bR,cm,cX⟩
  refine cj @eY ⟨?_⟩
  refine(rd u bR cm cX _ ww).Zm ?_
  clear rd bR cm cX eY
  rintro ac bH cC ⟨⟨x,rfl,af⟩,cW⟩
  have iu:=cW.le
  have dL:W X bH j=zD [.Z 0, .Z 0] 2:=by rw[cW.ab _ Zo];exact b2
  have PB:=hx.ab (cW.ab (j+1) Zo)
  have HP:br X h j bH cC:=bI.trans ⟨Zo,λe z=>cW.ab e Zo⟩
  have axh:cg x=[.Z x.kind, .str x.text, .Z x.at_, .int .u64 x.n, .bool x.ty.b, .bool x.ty.s, .Z x.ty.w]:=rfl
  rw[axh]
  refine iq ⟨?_⟩
  refine iq ⟨?_⟩
  refine iq ⟨?_⟩
  refine iq ⟨?_⟩
  refine iq ⟨?_⟩
  generalize hZ:bm X _ cC _=bN
  have bw:∀e,e<cC->W X bN e=W X bH e:=λe z=>by rw[<-hZ];exact zF
  have fg:W X bN cC=zD (cg x) 7:=by rw[<-hZ,bh Zo];rfl
  have d1:=dL
  rw[<-bw _ Zo]at d1
  have LG:=PB.ab (bw (j+1) Zo)
  have dW:br X h j bN (cC+1):=⟨Zo,λe z=>by rw[bw e Zo];exact HP.ab e z⟩
  clear hZ dL
  have ke:=LG.c5
  cases lw:yz s V with
  |none=>
   rw[lw]at Y
   simp only[Zf]at Y
   subst Y
   simp only[Z3]
   refine er @t4 @t3 @ke ⟨?_⟩
   exact⟨rfl,br.set dW (Zj _) aF Zo⟩
  |some e=>
   have:=af e lw
   subst this
   rw[lw]at Y
   simp only[]at Y
   obtain⟨vb,Fe⟩:=XC lw
   simp only[Ya]
   simp only[Yw]
   refine er @t4 @t3 @ke ⟨?_⟩
   generalize gS:bm X bN cC _=b6
   have b1:∀e,e≠cC->W X b6 e=W X bN e:=λe z=>by rw[<-gS,aI Zo z]
   have ew:W X b6 cC=some (.cells (d7 (S.ofList (cg x) 0 .nil) 2 [.Z (V:Int)]) 7 .own):=by rw[<-gS,bh Zo];rfl
   have oD:=LG.ab (b1 (j+1) Zo)
   have ec:br X h j b6 (cC+1):=⟨Zo,λe z=>by rw[b1 e Zo];exact dW.ab e z⟩
   have gu:=d1
   rw[<-b1 _ Zo]at gu
   have dc:∀e∈cv,W X b6 e=W X a6 e:=λe z=>by have:=nY e z;rw[b1 e Zo,bw e Zo,cW.ab e Zo]
   clear gS fg d1 LG dW ke b1 bw PB HP
   have en:aU X b6 (.ptr cC 1)=some (.str x.text):=by rw[bG ew];rfl
   have bC:bv .add (.Z (V:Int)) (.Z (x.text.length:Int))=some (.Z ((V+x.text.length:Nat):Int)):=by rw[eI Zo Zo];rfl
   refine tG @en ⟨?_⟩
   refine iq ⟨?_⟩
   refine tG @bC ⟨?_⟩
   refine iq ⟨?_⟩
   refine iq ⟨?_⟩
   refine gm (jG (u:=1) (b:=j+1) (T:=1) (n:=2) oD.g Zo rfl Zd Zd rfl) ?_
   generalize k6:bm X b6 (j+1) _=cy
   have c6:∀e,e≠j+1->W X cy e=W X b6 e:=λe z=>by rw[<-k6,aI Zo z]
   have LH:nO X cy (j+1) s (V+x.text.length):=⟨by rw[<-k6,bh Zo];rfl,Fe,aC,Zo⟩
   have eC:br X h j cy (cC+1):=⟨Zo,λe z=>by rw[c6 e Zo];exact ec.ab e z⟩
   rw[<-c6 _ Zo]at ew gu
   have f0:∀e∈cv,W X cy e=W X a6 e:=λe z=>by have:=nY e z;rw[c6 e Zo];exact dc e z
   clear k6 c6 oD ec dc en
   have ft:aU X cy (.ptr cC 0)=some (.Z x.kind):=by rw[bG ew];rfl
   have en:aU X cy (.ptr cC 1)=some (.str x.text):=by rw[bG ew];rfl
   have cZ:aU X cy (.ptr cC 2)=some (.Z (V:Int)):=by rw[bG ew];rfl
   have eW:aU X cy (.ptr cC 3)=some (.int .u64 x.n):=by rw[bG ew];rfl
   have hn:aU X cy (.ptr cC 4)=some (.bool x.ty.b):=by rw[bG ew];rfl
   have gM:aU X cy (.ptr cC 5)=some (.bool x.ty.s):=by rw[bG ew];rfl
   have ny:aU X cy (.ptr cC 6)=some (.Z x.ty.w):=by rw[bG ew];rfl
   refine eh @ft @en @cZ @eW @hn @gM (Za @ny @t5) ⟨?_⟩
   obtain⟨lh,dt,gK,iN,Iw,Cv,sJ⟩:=acj (bm X cy (cC+1+11) (zD (cg (mn x V)) 7)) (cC+1+11+1) (cC+1+11) (mn x V) (λe z=>by have:=nY e z;rw[aI Zo Zo];exact f0 e z) Zo (bh Zo)
   refine kH iN ?_
   have d5:∀e,e<j+2->e∉cv:=λe H M=>zz (nY e M)
   have gG:∀e,e<j+2->W X dt e=W X cy e:=λe z=>by rw[sJ e Zo (d5 e z),aI Zo Zo]
   have awG:=LH.ab (gG (j+1) Zo)
   rw[<-gG _ Zo]at gu
   have is:br X h j dt (cC+1+11+1+1):=⟨Zo,λe z=>by rw[gG e Zo];exact eC.ab e z⟩
   have qN:∀e∈gK,j+2<=e/\e<cC+1+11+1+1:=λe z=>by
    rcases Cv e z with rfl|a
    ·omega
    ·have:=nY e a;omega
   refine cj @t4 ⟨?_⟩
   refine(acB aw awG aj Zo Zo).Zm ?_
   rintro ac d6 hG ⟨rL,hw⟩
   have qT:=hw.le
   refine⟨m,Zo,lh,aZ++[mn x V],gK,_,aW t3,aW t4,bo,by rw[hw.ab _ Zo Zs];exact gu,rL, .inl (Iw.ab λe z=>hw.ab e (qN e z).2 (by have:=qN e z;simp;omega)),λe z=>zz (qN e z),⟨Zo,λe z=>by rw[hw.ab e Zo Zx];exact is.ab e z⟩,Zo, ?_,Y⟩
   have:=Si s s.length (V+x.text.length)
   simp only[ZL,ZF,Z0]
   omega
 ·have c2:=zA V s.length
  rw[Zg bF]at Y
  cases Y
  refine f3 @t4 @dx @c5 @c2 @t5 ⟨?_⟩
  obtain⟨lh,bH,gK,iN,t8,wg,gz⟩:=acj (bm X aP (aX+10) (zD (cg ⟨7,[],V,0,dQ⟩) 7)) (aX+10+1) (aX+10) ⟨7,[],V,0,dQ⟩ (λe z=>aI Zo (zz (nY e z))) Zo (bh Zo)
  refine kH iN ?_
  have d5:∀e,e<j+2->e∉cv:=λe H M=>zz (nY e M)
  have dL:W X bH j=zD [.Z 0, .Z 0] 2:=by rw[gz _ Zo (d5 _ Zo),aI Zo Zo];exact b2
  have cW:br X h j bH (aX+10+1+1):=⟨Zo,λe z=>by rw[gz _ Zo (d5 _ Zo),aI Zo Zo];exact bI.ab e z⟩
  clear iN gz
  refine cj @t3 ⟨?_⟩
  have avG:∀r∈(aZ++[(⟨7,[],V,0,dQ⟩:Tok)]).map cg,r.length=7:=λr a=>by obtain⟨x,_,rfl⟩:=ZE.1 a;rfl
  generalize hZ:bm X bH j _=bN
  have bw:∀e,e≠j->W X bN e=W X bH e:=λe z=>by rw[<-hZ,aI Zo z]
  have ae1:∀e∈gK,j+2<=e/\e<aX+10+1+1:=λe z=>by
   rcases wg e z with rfl|a
   ·omega
   ·have:=nY e a;omega
  obtain⟨bU,cG⟩:=(t8.ab (R:=bN) (λe z=>bw e (zz (ae1 e z)))).uq Zd avG Zx (P:=λe=>j<=e/\e<aX+10+1+1) (λe z=>zz (ae1 e z))
  have ki:=cG.aj Zs
  exact⟨⟨lh,bU,rfl,dV.narrow cG,ki.1,ki.2⟩,⟨Zo,λe z=>by rw[bw e Zo];exact cW.ab e z⟩⟩
end
section
variable{X:ca}{h R aQ aP:S ag}{j an aV aX aM bU:Nat}{aZ:List Tok}{i:Nat}
def Wk(p:E):mm X h 23 p=aU X h p:=Zk
def IQ(p:E):mm X h 26 p=dE X h 2 p:=Zk
def ady:db X h .eql 20 true .nilIface .nilIface=some .zT:=Zk
def adx(u F:Int):db X h .eql 20 true (pQ u F) .nilIface=some .zF:=Zk
def acD:∃fn c,(o X).P.funcs[23]? =some fn/\fn.body=some c:=Oj (RM X)
def aB4(aw:dk X){F b:E}{a7:Bool->S ag->Nat->Prop}(a:a7 false h j):uQ X (.func 23) ([]++[F,b]) none h j a7:=by
 refine⟨aw.none _ _ rfl,acD,Ok (RM X) ?_⟩
 show Aj X 23 [F,b] none h j a7
 rw[aax]
 unfold RL
 show bt _ _
 refine cj @ady ⟨?_⟩
 exact a
def aB5(aw:dk X){F b:Nat}{u at_:Int}{c5 dC:S E}{a7:Bool->S ag->Nat->Prop}(aF:(o X).a8<=F)(lS:(o X).a8<=b)(u0:F≠b)(ED:F<j)(AA:b<j)(hm:W X h F=some (.cells c5 1 .own))(pS:W X h b=some (.cells dC 2 .own))
 (a:∀R aS,j<=aS->aU X R (.ptr F 0)=some .cN->dE X R 2 (.ptr b 0)=some (.agg [.Z u, .Z at_])->(∀e,e<j->e≠F->e≠b->W X R e=W X h e)->a7 true R aS):uQ X (.func 23) ([]++[.ptr F 0, .ptr b 0]) (some (pQ u at_)) h j a7:=by
 refine⟨aw.none _ _ rfl,acD,Ok (RM X) ?_⟩
 show Aj X 23 [.ptr F 0, .ptr b 0] (some (pQ u at_)) h j a7
 rw[aax]
 unfold RL
 show bt _ _
 have Sb:He 26 (.agg [.Z 0, .Z 0]) true (pQ u at_)=some (.tuple [.agg [.Z u, .Z at_], .zT]):=y2 _ _ _
 have F1:∀(I:c1) (n:Nat),(QU I).g n=I.g n:=λ_ _=>rfl
 refine er @adx @Sb @F1 ⟨?_⟩
 generalize dl:bm X _ j _=aQ
 have bP:W X aQ j=zD [.Z u, .Z at_] 2:=by rw[<-dl,bh Zo];rfl
 have H:∀e,e<j->W X aQ e=W X h e:=λe z=>by rw[<-dl];exact zF
 rw[<-H F ED]at hm
 rw[<-H b AA]at pS
 clear dl
 refine cS (bG bP) @F1 ⟨?_⟩
 refine gP (by simp[E.same,oI,pt]) ?_
 generalize dR:bm X aQ F _=aP
 have b2:W X aP F=some (.cells (d7 c5 0 [.cN]) 1 .own):=by rw[<-dR,bh aF];rfl
 have M:∀e,e≠F->W X aP e=W X aQ e:=λe z=>by rw[<-dR,aI aF z]
 rw[<-M b Zo]at pS
 clear dR
 refine tG @F1 ⟨?_⟩
 refine gm (jG (u:=2) (b:=b) (T:=0) (n:=2) pS lS rfl Zd Zd rfl) ?_
 show a7 true _ _
 refine a _ _ Zo ?_ ?_ (λe z VF gA=> ?_)
 ·rw[bG (by rw[aI lS u0];exact b2),kb];rfl
 ·rw[jp,bG (bh lS),bG (bh lS),kb,kb];rfl
 ·rw[aI lS gA,M e VF,H e z]
def aCg{ai:bK}{I:c1}{p ak v w:E}(m0:I.bj=[])(M:I.g 2=some p)(al:I.g 3=some ak)(en:aU X h p=some v)(cZ:dE X h 2 ak=some w)(a:ai (.tuple [v,w]) h j):Jl X ai I h j:=by
 unfold Jl
 rw[m0]
 show cH (I.g 2) (λp=>ar (mm X h 23 p) λv=>cH (I.g 3) λp=>ar (mm X h 26 p) λw=>ai (.tuple [v,w]) h j)
 rw[M,al]
 refine m6 ?_
 rw[Wk,en]
 refine oK ?_
 refine m6 ?_
 rw[IQ,cZ]
 exact oK a
def aCh{ai:bK}{I:c1}{p ak v w F b:E}(aw:dk X)(m0:I.bj=[⟨.fn (.func 23) [F,b],[]⟩])(M:I.g 2=some p)(al:I.g 3=some ak)(en:aU X h p=some v)(cZ:dE X h 2 ak=some w)(a:ai (.tuple [v,w]) h j):Jl X ai I h j:=by
 unfold Jl
 rw[m0]
 show uQ X (.func 23) ([]++[F,b]) none h j λ_ h j=>n9 X [.cell 2 23, .cell 3 26] ai I [] h j
 refine aB4 aw ?_
 show cH (I.g 2) (λp=>ar (mm X h 23 p) λv=>cH (I.g 3) λp=>ar (mm X h 26 p) λw=>ai (.tuple [v,w]) h j)
 rw[M,al]
 refine m6 ?_
 rw[Wk,en]
 refine oK ?_
 refine m6 ?_
 rw[IQ,cZ]
 exact oK a
def aiA{ai ax:bK}{I:c1}{F b:Nat}{u at_:Int}{c5 dC:S E}(aw:dk X)(m0:I.bj=[⟨.fn (.func 23) [.ptr F 0, .ptr b 0],[]⟩])(M:I.g 2=some (.ptr F 0))(al:I.g 3=some (.ptr b 0))
 (aF:(o X).a8<=F)(lS:(o X).a8<=b)(u0:F≠b)(ED:F<j)(AA:b<j)(hm:W X h F=some (.cells c5 1 .own))(pS:W X h b=some (.cells dC 2 .own))
 (a:∀R aS,j<=aS->(∀e,e<j->e≠F->e≠b->W X R e=W X h e)->ai (.tuple [.cN, .agg [.Z u, .Z at_]]) R aS):MC X ai ax I (pQ u at_) h j:=by
 unfold MC
 rw[m0]
 show uQ X (.func 23) ([]++[.ptr F 0, .ptr b 0]) (some (pQ u at_)) h j λb h j=>b0 b (n9 X [.cell 2 23, .cell 3 26] ai I [] h j) _
 refine aB5 aw aF lS u0 ED AA hm pS (λR aS gl en cZ aH=> ?_)
 show cH (I.g 2) (λp=>ar (mm X R 23 p) λv=>cH (I.g 3) λp=>ar (mm X R 26 p) λw=>ai (.tuple [v,w]) R aS)
 rw[M,al]
 refine m6 ?_
 rw[Wk,en]
 refine oK ?_
 refine m6 ?_
 rw[IQ,cZ]
 exact oK (a R aS gl aH)
def ada{fn:Fn}{first cap y1:List E}{I:c1}{ai:c1->Prop}(a:ai (Bi I ⟨.fn fn cap,first++y1⟩)):Km (.func fn first cap) y1 I ai:=a
def Dm(s:aR)(n:Nat):Option (Except (Int×Int) (List Go.aL.Node)):=match r8 s (s.length+1) [] (o3 s s.length 0)with
 |none=>none
 |some (.error F)=>some (.error (20,F))
 |some (.ok aZ)=>match nodes n [] aZ with
  |none=>none
  |some (.error F)=>some (.error (21,F))
  |some (.ok (am,_))=>match n2 am with
   |some (u,F)=>some (.error (u,F))
   |none=>some (.ok am)
def X3(X:ca)(j:Nat)(r:Except (Int×Int) (List Go.aL.Node))(ac:E)(R:S ag)(an:Nat):Prop:=match r with
 | .error (u,F)=>ac= .tuple [.cN, .agg [.Z u, .Z F]]
 | .ok am=>∃v,ac= .tuple [v, .agg [.Z 0, .Z 0]]/\BL X R (dU j an) am v
def Kb(s:aR):∀(n i:Nat),i<=s.length->o3 s n i<=s.length:=by
 intro n
 induction n with
 |zero=>intro i a;exact a
 |succ n ah=>
  intro i a
  rw[o3]
  split
  ·exact a
  ·rename_i c aA
   have af:=(Zb.1 aA).1
   split
   ·exact ah _ Zo
   ·split
    ·have:=Gj (λc=>decide (c≠10)) (s.drop i)
     rw[Yy]at this
     exact ah _ Zo
    ·exact a
def ajM(s:aR):∀(n:Nat) (aZ:List Tok) (i:Nat) (nH:List Tok),aZ.length<=i->i<=s.length->r8 s n aZ i=some (.ok nH)->nH.length<=s.length+1:=by
 intro n
 induction n with
 |zero=>intro aZ i nH _ _ a;cases a
 |succ n ah=>
  intro aZ i nH H M a
  rw[r8]at a
  split at a
  ·split at a
   ·cases a
   ·rename_i x af
    obtain⟨bR,cm⟩:=XC af
    have cX:=Si s s.length (i+x.text.length)
    exact ah _ _ _ Zx (Kb s _ _ cm) a
  ·cases a
   simp;omega
def aBk(aw:jd X)(dZ:JQ X)(gp:xd X){s:aR}{n:Nat}(tX:n<=170000)(aC:s.length<=65536)(aj:∀c∈s,c<256)(aF:(o X).a8<=j){a0:E}(az:gr a0=some (.Z (s.length:Int)))(AB:∀R aS,br X h j R aS->B5 X R a0=some (.str s))
 {r:Except (Int×Int) (List Go.aL.Node)}(Y:Dm s n=some r):
 a2 X 6 [a0] h j (λac R an=>X3 X j r ac R an/\br X h j R an) zL:=by
 refine Kf (anR X) (aw.none _ _ rfl) ?_
 rw[anS]
 unfold aa7
 refine cL ⟨?_⟩
 refine e0 (λaQ=>W X aQ j=zD [.cN] 1/\W X aQ (j+1)=zD [.Z 0, .Z 0] 2/\br X h j aQ (j+1+1)) ⟨by exact zQ,by rw[bh Zo];rfl,dH⟩ ?_
 rintro aQ ⟨bP,b2,bL⟩
 unfold Dm at Y
 obtain⟨F5,LM⟩:∃F5,r8 s (s.length+1) [] (o3 s s.length 0)=some F5:=by
  cases a:r8 s (s.length+1) [] (o3 s s.length 0)with
  |none=>rw[a]at Y;cases Y
  |some F5=>exact⟨F5,rfl⟩
 rw[LM]at Y
 refine(apu aw dZ aC aj Zo az (λR aS a=>AB R aS (bL.trans a)) LM).Zm ?_
 rintro ac aP aX ⟨lw,bI⟩
 have fN:=bI.le
 have cI:W X aP j=zD [.cN] 1:=by rw[bI.ab _ Zo];exact bP
 have dL:W X aP (j+1)=zD [.Z 0, .Z 0] 2:=by rw[bI.ab _ Zo];exact b2
 have hb:=bL.trans bI
 clear bP b2
 cases F5 with
 |error F=>
  simp only[Zf]at Y
  subst Y
  simp only[abW]at lw
  subst lw
  have SJ:decide ((20:Int)≠0)=true:=rfl
  refine cj @SJ ⟨?_⟩
  generalize eQ:bm X aP (j+1) _=a6
  have fg:W X a6 (j+1)=zD [.Z 20, .Z F] 2:=by rw[<-eQ,bh Zo];rfl
  have al:∀e,e≠j+1->W X a6 e=W X aP e:=λe z=>by rw[<-eQ,aI Zo z]
  rw[<-al _ Zo]at cI
  have cp:br X h j a6 aX:=⟨Zo,λe z=>by rw[al e Zo];exact hb.ab e z⟩
  clear eQ al dL
  refine gm (jG (u:=1) (b:=j) (T:=0) (n:=1) cI aF rfl Zd Zd rfl) ?_
  generalize e5:bm X a6 j _=bH
  have d1:W X bH j=some (.cells (d7 (S.ofList [.cN] 0 .nil) 0 [.cN]) 1 .own):=by rw[<-e5,bh aF];rfl
  have aB:∀e,e≠j->W X bH e=W X a6 e:=λe z=>by rw[<-e5,aI aF z]
  rw[<-aB _ Zo]at fg
  have cW:br X h j bH aX:=⟨Zo,λe z=>by rw[aB e Zo];exact cp.ab e z⟩
  clear e5 aB cI cp
  refine tG (bG fg) ⟨?_⟩
  refine gP (by simp[E.same,oI,pt]) ?_
  refine gm (jG (u:=2) (b:=j+1) (T:=0) (n:=2) fg Zo rfl Zd Zd rfl) ?_
  refine aCg (v:= .cN) (w:= .agg [.Z 20, .Z F]) rfl (fY) (fY) ?_ ?_ ⟨rfl,br.set cW Zo aF Zo⟩
  ·rw[bG (by rw[aI Zo Zo];exact d1),kb];rfl
  ·rw[jp,bG (bh Zo),bG (bh Zo),kb,kb];rfl
 |ok aZ=>
  obtain⟨aq,bU,rfl,cG,aFS,aFT⟩:=lw
  simp only[]at Y
  have SJ:decide ((0:Int)≠0)=false:=rfl
  refine cj @SJ ⟨?_⟩
  generalize eQ:bm X aP (j+1) _=a6
  have fg:W X a6 (j+1)=zD [.Z 0, .Z 0] 2:=by rw[<-eQ,bh Zo];rfl
  have al:∀e,e≠j+1->W X a6 e=W X aP e:=λe z=>by rw[<-eQ,aI Zo z]
  rw[<-al _ Zo]at cI
  have cp:br X h j a6 aX:=⟨Zo,λe z=>by rw[al e Zo];exact hb.ab e z⟩
  have awH:=cG.ab (R:=a6) (λe z=>by subst z;exact al e Zo)
  clear eQ al dL
  refine ada ?_
  obtain⟨bC,cu,fL⟩:=jS cG.len
  refine cL ⟨?_⟩
  have hu:fv [.aY, .Z 0] [(0,1,aq)]=some (.agg [aq, .Z 0]):=by
   simp[fv,tB,tC,bC,nE]
  refine gm hu ?_
  refine cL ⟨?_⟩
  generalize it:Bi _ _=vL
  have lj:vL.bj=[⟨.fn (.func 23) [.ptr j 0, .ptr (j+1) 0],[]⟩]:=by rw[<-it];rfl
  have eK:vL.g 2=some (.ptr j 0):=by rw[<-it];rfl
  have t3:vL.g 3=some (.ptr (j+1) 0):=by rw[<-it];rfl
  have adc:∀k,rS 2 k=false->(ib k vL).g 2=some (.ptr j 0):=λk a=>by simp[vW,eK,a]
  have ade:∀k,rS 3 k=false->(ib k vL).g 3=some (.ptr (j+1) 0):=λk a=>by simp[vW,t3,a]
  have ac6:∀k,(ib k vL).bj=[⟨.fn (.func 23) [.ptr j 0, .ptr (j+1) 0],[]⟩]:=λk=>lj
  clear it
  refine e0 (λbH=>W X bH aX=zD [aq, .Z ((0:Nat):Int)] 2/\br X a6 aX bH (aX+1)) ⟨by rw[bh Zo];rfl,dH⟩ ?_
  rintro bH ⟨d1,Ap⟩
  have eM:=ajM s _ _ _ _ Zs (Kb s _ _ Zo) LM
  have awq:aL X bH aX bU aZ 0:=⟨⟨_,aq,d1,rfl,rfl,awH.ab λe z=>by subst z;exact Ap.ab e Zo⟩,Zo⟩
  have awt:je X bH (aX+1) aX bU aZ 0:=⟨Zo,Zo,Zo,Zo,Zo,awq⟩
  obtain⟨MI,CF⟩:∃MI,nodes n [] aZ=some MI:=by
   cases a:nodes n [] aZ with
   |none=>rw[a]at Y;cases Y
   |some MI=>exact⟨MI,rfl⟩
  rw[CF]at Y
  have cE:W X bH j=zD [.cN] 1:=by rw[Ap.ab _ Zo];exact cI
  have cA:W X bH (j+1)=zD [.Z 0, .Z 0] 2:=by rw[Ap.ab _ Zo];exact fg
  refine(aBH aw.todk gp tX Zo awt (r:=MI) CF).mono ?_ ?_
  ·rintro v bN ci ⟨am,i5,rfl,xZ,_,dM⟩
   have iP:=dM.le
   simp only[]at Y
   have dT:W X bN j=zD [.cN] 1:=by rw[dM.ab _ Zo Zx];exact cE
   have fG:W X bN (j+1)=zD [.Z 0, .Z 0] 2:=by rw[dM.ab _ Zo Zx];exact cA
   have Pk:∀e,e<j->W X bN e=W X h e:=λe z=>by rw[dM.ab e Zo Zx,Ap.ab e Zo];exact cp.ab e z
   obtain⟨y5,_,_,_,rfl,ae6,_⟩:=xZ.prog
   have aFU:=ae6.1
   have aFV:=ae6.2
   refine tG @eK ⟨?_⟩
   refine gm (jG (u:=1) (b:=j) (T:=0) (n:=1) dT aF rfl Zd Zd rfl) ?_
   generalize gS:bm X bN j _=b6
   have ew:W X b6 j=some (.cells (d7 (S.ofList [.cN] 0 .nil) 0 [.ptr y5 0]) 1 .own):=by rw[<-gS,bh aF];rfl
   have b1:∀e,e≠j->W X b6 e=W X bN e:=λe z=>by rw[<-gS,aI aF z]
   clear gS
   have ny:aU X b6 (.ptr j 0)=some (.ptr y5 0):=by rw[bG ew,kb];rfl
   refine tG @eK ⟨?_⟩
   refine tG @ny ⟨?_⟩
   have awu:=xZ.ab (R:=b6) (a7:=dU (aX+1) ci) (λe z=>b1 e (zz z.1)) (λ_ a=>a)
   have m8:W X b6 (j+1)=zD [.Z 0, .Z 0] 2:=by rw[b1 _ Zo];exact fG
   refine(azh (j:=ci) (h:=b6) aw.todk Zo awu.prog (λe z=>z.2)).mono ?_ ?_
   ·rintro M4 cy dX ⟨p0,rfl,eC⟩
    have nr:=eC.le
    rw[p0]at Y
    simp only[Zf]at Y
    subst Y
    have gu:W X cy j=some (.cells (d7 (S.ofList [.cN] 0 .nil) 0 [.ptr y5 0]) 1 .own):=by rw[eC.ab _ Zo];exact ew
    have Dq:W X cy (j+1)=zD [.Z 0, .Z 0] 2:=by rw[eC.ab _ Zo];exact m8
    have m3:aU X cy (.ptr j 0)=some (.ptr y5 0):=by rw[bG gu,kb];rfl
    refine tG @eK ⟨?_⟩
    refine tG @m3 ⟨?_⟩
    refine iq ⟨?_⟩
    refine tG @eK ⟨?_⟩
    refine gm (jG (u:=1) (b:=j) (T:=0) (n:=1) gu aF rfl Zd Zd rfl) ?_
    generalize mA:bm X cy j _=dt
    have nk:W X dt j=some (.cells (d7 (d7 (S.ofList [.cN] 0 .nil) 0 [.ptr y5 0]) 0 [.ptr y5 0]) 1 .own):=by rw[<-mA,bh aF];rfl
    have el:∀e,e≠j->W X dt e=W X cy e:=λe z=>by rw[<-mA,aI aF z]
    rw[<-el _ Zo]at Dq
    clear mA
    refine tG @t3 ⟨?_⟩
    refine gm (jG (u:=2) (b:=j+1) (T:=0) (n:=2) Dq Zo rfl Zd Zd rfl) ?_
    have rG:∀cT e,e≠j->e≠j+1->e<ci->W X (bm X dt (j+1) cT) e=W X bN e:=λcT e H M al=>by
     rw[aI Zo M,el e H,eC.ab e al,b1 e H]
    refine aCh (v:= .ptr y5 0) (w:= .agg [.Z 0, .Z 0]) aw.todk lj eK t3 ?_ ?_ ⟨⟨.ptr y5 0,rfl,xZ.ab (λe z=>rG _ e (zz z.1) (zz z.1) z.2) (λe z=>⟨zz z.1,zz z.2⟩)⟩,⟨Zo,λe z=>by rw[rG _ e Zo Zo Zo];exact Pk e z⟩⟩
    ·rw[bG (by rw[aI Zo Zo];exact nk),kb];rfl
    ·rw[jp,bG (bh Zo),bG (bh Zo),kb,kb];rfl
   ·rintro ac cy dX ⟨u,F,p0,rfl,eC⟩
    have nr:=eC.le
    rw[p0]at Y
    simp only[Zf]at Y
    subst Y
    refine aiA (c5:=d7 (S.ofList [.cN] 0 .nil) 0 [.ptr y5 0]) (dC:=S.ofList [.Z 0, .Z 0] 0 .nil) aw.todk (ac6 _) (adc _ rfl) (ade _ rfl) aF Zo Zo Zo Zo ?_ ?_ (λR aS gl aH=>⟨rfl,Zo,λe z=> ?_⟩)
    ·rw[eC.ab _ Zo];exact ew
    ·rw[eC.ab _ Zo];exact m8
    ·rw[aH e Zo Zo Zo,eC.ab e Zo,b1 e Zo];exact Pk e z
  ·rintro ac bN ci ⟨F,rfl,rfl,dM⟩
   have iP:=dM.le
   simp only[Zf]at Y
   subst Y
   refine aiA (c5:=S.ofList [.cN] 0 .nil) (dC:=S.ofList [.Z 0, .Z 0] 0 .nil) aw.todk (ac6 _) (adc _ rfl) (ade _ rfl) aF Zo Zo Zo Zo ?_ ?_ (λR aS gl aH=>⟨rfl,Zo,λe z=> ?_⟩)
   ·rw[dM.ab _ Zo Zx];exact cE
   ·rw[dM.ab _ Zo Zx];exact cA
   ·rw[aH e Zo Zo Zo,dM.ab e Zo Zx,Ap.ab e Zo];exact cp.ab e z
end
end
end Go.Proofs.YtpeabpmnlmaabaaGreatDoor

namespace Go.aL
def hL:List Tok->Prop
 |[]=>False
 |x::k=>x.kind=7/\x.text=[]\/hL k
def hL.od{x:Tok}{k:List Tok}(a:hL (x::k))(af:x.kind≠7):hL k:=a.resolve_left λu=>af u.1
def eg{α:Type}(b:Nat)(a7:α->Prop)(x:gy α):Prop:=∃r,x=some r/\∀F bS,r= .ok (F,bS)->hL bS/\bS.length<b/\a7 F
def rh(D:bp):Prop:=D.kind=4->D.args≠[]
def eg.mono{α:Type}{b dD:Nat}{a7 si:α->Prop}{x:gy α}(a:eg b a7 x)(aj:b<=dD)(bM:∀F,a7 F->si F):eg dD si x:=by
 obtain⟨r,H,M⟩:=a
 exact⟨r,H,λF bS D=>by obtain⟨bR,cm,cX⟩:=M F bS D;exact⟨bR,Zo,bM F cX⟩⟩
def eg.ok{α:Type}{b:Nat}{a7:α->Prop}{F:α}{k:List Tok}(H:hL k)(M:k.length<b)(al:a7 F):eg b a7 (aL.ok F k):=⟨_,rfl,λfB bS D=>by cases D;exact⟨H,M,al⟩⟩
def eg.bad{α:Type}{b:Nat}{a7:α->Prop}(F:Int):eg b a7 (aL.bad F:gy α):=⟨_,rfl,λfB bS D=>by cases D⟩
def eg.andThen{α eU:Type}{b dD:Nat}{a7:α->Prop}{si:eU->Prop}{x:gy α}{f:α->List Tok->gy eU}(a:eg b a7 x)(u:∀F bS,hL bS->bS.length<b->a7 F->eg dD si (f F bS)):eg dD si (aL.andThen x f):=by
 obtain⟨r,rfl,M⟩:=a
 cases r with
 |error F=>exact⟨_,rfl,λfB bS D=>by cases D⟩
 |ok p=>
  obtain⟨F,bS⟩:=p
  obtain⟨bR,cm,cX⟩:=M F bS rfl
  exact u F bS bR cm cX
def Xd{x:Tok}{s:aR}(a:hq x s=true):x.kind≠7:=by
 intro D;simp[hq,D]at a
def oP{s:aR}{k:List Tok}(a:hL k):eg k.length (λ_=>True) (eL s k):=by
 cases k with
 |nil=>exact a.elim
 |cons x k=>
  simp only[eL]
  split
  ·rename_i aC;exact eg.ok (a.od (Xd aC)) Zs trivial
  ·exact eg.bad _
def wG{u:Int}(aH:u≠7){k:List Tok}(a:hL k):eg k.length (λx:Tok=>True) (jq u k):=by
 cases k with
 |nil=>exact a.elim
 |cons x k=>
  simp only[jq]
  split
  ·rename_i aC;exact eg.ok (a.od Zo) Zs trivial
  ·exact eg.bad _
def q9{eU:Type}{s:aR}{k:List Tok}{f:Option Tok->List Tok->gy eU}{b:Nat}{a7:eU->Prop}(a:hL k)(H:∀x bS,hL bS->bS.length+1=k.length->eg b a7 (f (some x) bS))(M:eg b a7 (f none k)):eg b a7 (iR s k f):=by
 cases k with
 |nil=>exact a.elim
 |cons x k=>
  unfold iR mP
  by_cases aC:hq x s=true
  ·simp only[aC,ZG];exact H x k (a.od (Xd aC)) Zs
  ·simp only[aC,ZB];exact M
def acz{k:List Tok}(a:hL k):∀os:List (aR×Int),∃D bS,pL os k=some (D,bS)/\(D=none/\bS=k\/∃x,D=some x/\hL bS/\bS.length+1=k.length):=by
 cases k with
 |nil=>exact a.elim
 |cons x k=>
  intro os
  induction os with
  |nil=>exact⟨_,_,rfl, .inl ⟨rfl,rfl⟩⟩
  |cons T os ah=>
   obtain⟨s,u⟩:=T
   unfold pL mP
   by_cases aC:hq x s=true
   ·simp only[aC,ZG];exact⟨_,_,rfl, .inr ⟨_,rfl,a.od (Xd aC),Zs⟩⟩
   ·simp only[aC,ZB]
    exact ah
structure akE(n:Nat):Prop where
 level:∀u k,u<=5->hL k->13*k.length+9-u<=n->eg k.length rh (level n u k)
 qe:∀u D k,u<=4->hL k->rh D->13*k.length+1<=n->eg (k.length+1) rh (qe n u D k)
 shift:∀k,hL k->13*k.length+3<=n->eg k.length rh (shift n k)
 qn:∀D k,hL k->rh D->13*k.length+1<=n->eg (k.length+1) rh (qn n D k)
 qo:∀u x D k,u≠4->hL k->13*k.length+1<=n->eg k.length rh (qo n u x D k)
 vq:∀k,hL k->13*k.length+2<=n->eg k.length rh (yo n k)
 oe:∀D k,hL k->rh D->13*k.length+1<=n->eg (k.length+1) rh (oe n D k)
 part:∀k,hL k->13*k.length+1<=n->eg k.length rh (part n k)
 list:∀k,hL k->13*k.length+12<=n->eg k.length (λ_=>True) (list n k)
 qf:∀cB k,hL k->13*k.length+1<=n->eg k.length (λ_=>True) (qf n cB k)
 my:∀k,hL k->13*k.length+10<=n->eg k.length rh (my n k)
 arrow:∀k,hL k->13*k.length+11<=n->eg k.length rh (arrow n k)
def vA{D:bp}(a:D.kind≠4):rh D:=λu=>absurd u a
def XP{D:bp}(a:D.args≠[]):rh D:=λ_=>a
def hL.pos{k:List Tok}(a:hL k):0<k.length:=by cases k with
 |nil=>exact a.elim
 |cons x k=>simp
def aps:∀n,akE n:=by
 intro n
 induction n with
 |zero=>constructor<;>(intros;rename_i a _ _;omega)
 |succ n ah=>
  constructor
  case level=>
   intro u k aH az aF
   have:=az.pos
   rw[level]
   split
   ·exact ah.shift k az Zo
   ·refine(ah.level (u+1) k Zo az Zo).andThen λD bS H M al=> ?_
    exact(ah.qe u D bS Zo H al Zo).mono Zo λ_ a=>a
  case qe=>
   intro u D k aH az bA aF
   have:=az.pos
   rw[qe]
   obtain⟨T,bS,H,M⟩:=acz az (av u)
   rw[H]
   rcases M with ⟨rfl,rfl⟩|⟨x,rfl,al,aB⟩
   ·exact eg.ok az Zo bA
   ·simp only[]
    refine(ah.level (u+1) bS Zo al Zo).andThen λr cZ bR cm cX=> ?_
    split
    ·exact eg.ok bR Zo (XP (by simp[two,bp.args]))
    ·exact(ah.qe u _ cZ aH bR (XP (by simp[two,bp.args])) Zo).mono Zo λ_ a=>a
  case shift=>
   intro k az aF
   have:=az.pos
   rw[shift]
   refine(ah.vq k az Zo).andThen λD bS H M al=> ?_
   exact(ah.qn D bS H al Zo).mono Zo λ_ a=>a
  case qn=>
   intro D k az bA aF
   have:=az.pos
   rw[qn]
   refine q9 az (λx bS H M=>(ah.qo 19 x D bS Zd H Zo).mono Zo λ_ a=>a) ?_
   refine q9 az (λx bS H M=>(ah.qo 20 x D bS Zd H Zo).mono Zo λ_ a=>a) ?_
   exact eg.ok az Zo bA
  case qo=>
   intro u x D k aH az aF
   have:=az.pos
   rw[qo]
   refine(wG Zd az).andThen λm bS H M al=> ?_
   split
   ·exact eg.bad _
   ·exact(ah.qn _ bS H (vA (by simpa[bp.kind]using aH)) Zo).mono Zo λ_ a=>a
  case vq=>
   intro k az aF
   have:=az.pos
   rw[yo]
   obtain⟨T,bS,H,M⟩:=acz az Bg
   rw[H]
   rcases M with ⟨rfl,rfl⟩|⟨x,rfl,al,aB⟩
   ·simp only[]
    refine(ah.part bS az Zo).andThen λD cZ bR cm cX=> ?_
    exact(ah.oe D cZ bR cX Zo).mono Zo λ_ a=>a
   ·simp only[]
    refine(ah.vq bS al Zo).andThen λD cZ bR cm cX=> ?_
    exact eg.ok bR Zo (XP (by simp[bp.args]))
  case oe=>
   intro D k az bA aF
   have:=az.pos
   rw[oe]
   refine q9 az (λx bS H M=> ?_) (eg.ok az Zo bA)
   have:=H.pos
   refine q9 H (λe cZ bR cm=> ?_) ?_
   ·refine(wG Zd bR).andThen λm eW es fk jT=> ?_
    exact(ah.oe _ eW es (vA (by simp[bp.kind])) Zo).mono Zo λ_ a=>a
   ·refine(wG Zd H).andThen λm eW es fk jT=> ?_
    exact(ah.oe _ eW es (vA (by simp[bp.kind])) Zo).mono Zo λ_ a=>a
  case list=>
   intro k az aF
   have:=az.pos
   rw[list]
   refine q9 az (λx bS H M=>eg.ok H Zo trivial) ?_
   refine(ah.arrow k az Zo).andThen λD cZ bR cm cX=> ?_
   exact(ah.qf _ cZ bR Zo).mono Zo λ_ a=>a
  case qf=>
   intro cB k az aF
   have:=az.pos
   rw[qf]
   refine q9 az (λx bS H M=> ?_) ?_
   ·refine(ah.arrow bS H Zo).andThen λD cZ bR cm cX=> ?_
    exact(ah.qf _ cZ bR Zo).mono Zo λ_ a=>a
   ·exact(oP az).andThen λ_ bS H M _=>eg.ok H Zo trivial
  case my=>
   intro k az aF
   have:=az.pos
   rw[my]
   refine(ah.level 0 k Zo az Zo).andThen λD cZ bR cm cX=> ?_
   refine q9 bR (λx bS H M=> ?_) (eg.ok bR Zo cX)
   have u6:vk D≠none:=by
    unfold vk
    split
    ·simp
    ·split
     ·rename_i aB
      have:=cX aB
      cases aE:D.args with
      |nil=>exact absurd aE this
      |cons F k=>simp
     ·simp
   simp only[]
   split
   ·rename_i a;exact absurd a u6
   ·refine(ah.my bS H Zo).andThen λr eW es fk jT=> ?_
    exact eg.ok es Zo (vA (by simp[bp.kind]))
   ·exact eg.bad _
  case arrow=>
   intro k az aF
   have:=az.pos
   rw[arrow]
   refine(ah.my k az Zo).andThen λD cZ bR cm cX=> ?_
   refine q9 bR (λx bS H M=> ?_) (eg.ok bR Zo cX)
   refine(ah.arrow bS H Zo).andThen λr eW es fk jT=> ?_
   exact eg.ok es Zo (vA (by simp[bp.kind]))
  case part=>
   intro k az aF
   cases k with
   |nil=>exact az.elim
   |cons x k=>
   simp only[ZF]at aF
   rw[part]
   have eM:(x::k).length=k.length+1:=rfl
   rw[eM]
   by_cases ke:x.kind=5
   ·rw[Zp ke]
    exact eg.ok (az.od Zo) Zo (vA (by simp[bp.kind]))
   rw[Zg ke]
   split
   ·rename_i a
    have:x.kind=2:=by simp at a;exact a.1
    exact eg.ok (az.od Zo) Zo (vA (by simp[bp.kind]))
   by_cases c5:x.kind=1
   ·rw[Zp c5]
    have hO:=az.od Zo
    refine q9 hO (λe cZ H M=> ?_) (eg.ok hO Zo (vA (by simp[bp.kind])))
    refine(ah.list cZ H Zo).andThen λcB eW es fk jT=> ?_
    exact eg.ok es Zo (vA (by simp[bp.kind]))
   rw[Zg c5]
   by_cases ge:x.kind=3
   ·rw[Zp ge]
    have hO:=az.od Zo
    refine(oP hO).andThen λ_ cZ H M _=> ?_
    refine(ah.arrow cZ H Zo).andThen λD eW es fk jT=> ?_
    refine(oP es).andThen λ_ hn fF h5 _=> ?_
    exact eg.ok fF Zo (vA (by simp[bp.kind]))
   rw[Zg ge]
   split
   ·rename_i a
    have:x.kind=6:=by simp at a;exact a.1
    have hO:=az.od Zo
    refine(ah.arrow k hO Zo).andThen λD eW es fk jT=> ?_
    refine(oP es).andThen λ_ hn fF h5 _=> ?_
    exact eg.ok fF Zo jT
   split
   ·rename_i a
    have:x.kind=2:=by simp at a;exact a.1
    have hO:=az.od Zo
    refine(ah.arrow k hO Zo).andThen λD eW es fk jT=> ?_
    refine(oP es).andThen λ_ hn fF h5 _=> ?_
    refine(ah.arrow hn fF Zo).andThen λcu gM cE cA dT=> ?_
    refine(oP cE).andThen λ_ ny fz gn _=> ?_
    refine(ah.arrow ny fz Zo).andThen λfL m3 i2 jF ML=> ?_
    exact eg.ok i2 Zo (vA (by simp[bp.kind]))
   split
   ·rename_i a
    have:x.kind=2:=by simp at a;exact a.1
    have hO:=az.od Zo
    refine(wG Zd hO).andThen λc cZ H M _=> ?_
    refine(ah.part cZ H Zo).andThen λD eW es fk jT=> ?_
    refine(ah.part eW es Zo).andThen λcu hn fF h5 yn=> ?_
    exact eg.ok fF Zo (vA (by simp[bp.kind]))
   ·exact eg.bad _
def ah4:∀(n:Nat) (cB k:List Tok),hL k->k.length<=n->eg k.length (λ_=>True) (gN n cB k):=by
 intro n
 induction n with
 |zero=>intro cB k a aF;have:=a.pos;omega
 |succ n ah=>
  intro cB k a aF
  rw[gN]
  refine(wG Zd a).andThen λx cZ H M _=> ?_
  refine q9 H (λe eW bR cm=>(ah _ eW bR Zo).mono Zo λ_ a=>a) (eg.ok H Zo trivial)
def aq1{w:Option Tok}{k:List Tok}(a:hL k):eg (k.length+1) (λ_=>True) (B6 w k):=by
 cases w with
 |none=>exact eg.ok a Zo trivial
 |some w=>
  simp only[B6]
  refine q9 a (λe cZ bR cm=> ?_) ?_
  ·exact(wG Zd bR).andThen λx eW es fk _=>eg.ok es Zo trivial
  ·exact(wG Zd a).andThen λx eW es fk _=>eg.ok es Zo trivial
def SM:∀(n:Nat) (loc:Bool) (ds:List eb) (k:List Tok),hL k->k.length+1<=n->eg k.length (λ_=>True) (jL n loc ds k):=by
 intro n
 induction n with
 |zero=>intro loc ds k a aF;omega
 |succ n ah=>
  intro loc ds k a aF
  rw[jL]
  refine(ah4 n [] k a Zo).andThen λck cZ H M _=> ?_
  unfold Ed
  refine(oP H).andThen λ_ eW bR cm _=> ?_
  refine(wG Zd bR).andThen λt hn es fk _=> ?_
  have fin:∀w gM,hL gM->gM.length<=hn.length->eg k.length (λ_=>True) (andThen (B6 w gM) λr k=>mS loc (jL n loc) (ds++ck.map (qH t.ty r.1 r.2.1 r.2.2)) k):=by
   intro w gM fF h5
   refine(aq1 fF).andThen λr ny cE cA _=> ?_
   unfold mS
   cases ny with
   |nil=>exact cE.elim
   |cons e m3=>
    simp only[Bt,ZF]at cA ⊢
    split
    ·rename_i aC
     have dT:hL m3:=cE.resolve_left λu=>by rw[u.2]at aC;cases aC
     split
     ·cases m3 with
      |nil=>exact dT.elim
      |cons bE pi=>
       simp only[Bt]
       split
       ·exact eg.ok cE (by simp at cA ⊢;omega) trivial
       ·exact(ah _ _ (bE::pi) dT (by simp at cA ⊢;omega)).mono (by simp at cA ⊢;omega) λ_ a=>a
     ·exact(ah _ _ m3 dT Zo).mono Zo λ_ a=>a
    ·exact eg.ok cE Zx trivial
  refine q9 es (λe gM fF h5=>fin _ gM fF Zo) (fin _ hn es Zo)
def arV{n:Nat}{k:List Tok}(a:hL k)(aF:13*k.length+12<=n):eg k.length (λ_=>True) (vY n k):=by
 unfold vY
 have fin:∀(x:gy (List Tok)),eg (k.length+1) (λ_=>True) x->eg k.length (λ_=>True) (andThen x λck k=>andThen (eL [61] k) λD k=>andThen (arrow n k) λr k=>andThen (eL [59] k) λ_ k=>ok (⟨ck.map Tok.text,ck.map Tok.at_,D.at_,r⟩:eZ) k):=by
  intro x af
  refine af.andThen λck cZ H M _=> ?_
  refine(oP H).andThen λ_ eW bR cm _=> ?_
  refine((aps n).arrow eW bR Zo).andThen λD hn es fk _=> ?_
  exact(oP es).andThen λ_ gM fF h5 _=>eg.ok fF Zo trivial
 refine q9 a (λe cZ H M=>fin _ ?_) (fin _ ?_)
 ·refine(wG Zd H).andThen λx eW bR cm _=> ?_
  refine(oP bR).andThen λ_ hn es fk _=> ?_
  refine(ah4 n _ hn es Zo).andThen λck gM fF h5 _=> ?_
  exact(oP fF).andThen λ_ ny cE cA _=>eg.ok cE Zo trivial
 ·exact(wG Zd a).andThen λx eW bR cm _=>eg.ok bR Zo trivial
def arY:∀(n:Nat) (cq:List eZ) (k:List Tok),hL k->13*k.length+13<=n->eg k.length (λ_=>True) (mx n cq k):=by
 intro n
 induction n with
 |zero=>intro cq k a aF;omega
 |succ n ah=>
  intro cq k a aF
  rw[mx]
  refine q9 a (λe cZ H M=>eg.ok H Zo trivial) ?_
  refine(arV a Zo).andThen λak cZ H M _=> ?_
  exact(ah _ cZ H Zo).mono Zo λ_ a=>a
def aAq{n:Nat}{k:List Tok}(a:hL k)(aF:13*k.length+13<=n):eg k.length (λ_=>True) (node n k):=by
 unfold node
 refine(oP a).andThen λ_ cZ H M _=> ?_
 refine(wG Zd H).andThen λx eW bR cm _=> ?_
 refine(oP bR).andThen λ_ hn es fk _=> ?_
 have asg:∀d8 out gM,hL gM->gM.length<hn.length->eg k.length (λ_=>True) (iR [118,97,114] gM λe k=>andThen (match e with
  |some _=>andThen (jL n true [] k) λds k=>andThen (eL [59] k) λ_ k=>ok ds k
  |none=>ok [] k) λloc k=>
  andThen (eL [108,101,116] k) λ_ k=>andThen (mx n [] k) λcq k=>ok (⟨x.text,x.at_,d8,out,loc,cq⟩:Node) k):=by
  intro d8 out gM fF h5
  have adO:∀(bE:gy (List eb)),eg (gM.length+1) (λ_=>True) bE->eg k.length (λ_=>True) (andThen bE λloc k=>
   andThen (eL [108,101,116] k) λ_ k=>andThen (mx n [] k) λcq k=>ok (⟨x.text,x.at_,d8,out,loc,cq⟩:Node) k):=by
   intro bE cx
   refine cx.andThen λloc ny cE cA _=> ?_
   refine(oP cE).andThen λ_ m3 fz gn _=> ?_
   refine(arY n _ m3 fz Zo).andThen λcq pi i2 jF _=> ?_
   exact eg.ok i2 Zo trivial
  refine q9 fF (λe ny cE cA=>adO _ ?_) (adO _ (eg.ok fF Zo trivial))
  refine(SM n _ _ ny cE Zo).andThen λds m3 fz gn _=> ?_
  exact(oP fz).andThen λ_ pi i2 jF _=>eg.ok i2 Zo trivial
 have adN:∀(bE:gy (List eb)),eg (hn.length+1) (λ_=>True) bE->eg k.length (λ_=>True) (andThen bE λd8 k=>
  andThen (eL [114,101,116,117,114,110,115] k) λ_ k=>andThen (eL [40] k) λ_ k=>andThen (jL n false [] k) λout k=>andThen (eL [41] k) λ_ k=>
  iR [118,97,114] k λe k=>andThen (match e with
  |some _=>andThen (jL n true [] k) λds k=>andThen (eL [59] k) λ_ k=>ok ds k
  |none=>ok [] k) λloc k=>
  andThen (eL [108,101,116] k) λ_ k=>andThen (mx n [] k) λcq k=>ok (⟨x.text,x.at_,d8,out,loc,cq⟩:Node) k):=by
  intro bE cx
  refine cx.andThen λd8 gM fF h5 _=> ?_
  refine(oP fF).andThen λ_ ny cE cA _=> ?_
  refine(oP cE).andThen λ_ m3 fz gn _=> ?_
  refine(SM n _ _ m3 fz Zo).andThen λout pi i2 jF _=> ?_
  refine(oP i2).andThen λ_ ue t1 eK _=> ?_
  exact asg d8 out ue t1 Zo
 refine q9 es (λe gM fF h5=>adN _ (eg.ok fF Zo trivial)) (adN _ ?_)
 refine(SM n _ _ hn es Zo).andThen λds m3 fz gn _=> ?_
 exact(oP fz).andThen λ_ pi i2 jF _=>eg.ok i2 Zo trivial
def aAs:∀(n:Nat) (am:List Node) (k:List Tok),hL k->13*k.length+14<=n->eg k.length (λ_=>True) (nodes n am k):=by
 intro n
 induction n with
 |zero=>intro am k a aF;omega
 |succ n ah=>
  intro am k a aF
  rw[nodes]
  refine(aAq a Zo).andThen λg cZ H M _=> ?_
  cases cZ with
  |nil=>exact H.elim
  |cons x eW=>
   simp only[]
   split
   ·exact eg.ok H Zo trivial
   ·exact(ah _ _ H Zo).mono Zo λ_ a=>a
end Go.aL

namespace Go.Proofs.YtpeabpmnlmaabaaGreatDoor
open Go.bg Go.aL
def hL.snoc{x:Tok}(H:x.kind=7)(M:x.text=[]):∀k:List Tok,hL (k++[x]):=by
 intro k
 induction k with
 |nil=>exact .inl ⟨H,M⟩
 |cons e k ah=>exact .inr ah
def aD9(s:aR):∀(n:Nat) (aZ:List Tok) (i:Nat),i<=s.length->s.length<i+n->∃r,r8 s n aZ i=some r/\∀nH,r= .ok nH->hL nH:=by
 intro n
 induction n with
 |zero=>intro aZ i H M;omega
 |succ n ah=>
  intro aZ i H M
  rw[r8]
  split
  ·cases af:yz s i with
   |none=>exact⟨_,rfl,λnH a=>by cases a⟩
   |some x=>
    obtain⟨bR,cm⟩:=XC af
    have cX:=Si s s.length (i+x.text.length)
    exact ah _ _ (Kb s _ _ cm) Zo
  ·exact⟨_,rfl,λnH a=>by cases a;exact hL.snoc rfl rfl _⟩
def aBi{s:aR}(aC:s.length<=5000):∃r,Dm s 170000=some r:=by
 unfold Dm
 obtain⟨r,H,M⟩:=aD9 s (s.length+1) [] (o3 s s.length 0) (Kb s _ _ Zo) Zo
 rw[H]
 cases r with
 |error F=>exact⟨_,rfl⟩
 |ok aZ=>
  simp only[]
  have eM:=ajM s _ _ _ _ Zs (Kb s _ _ Zo) H
  obtain⟨r,al,_⟩:=aAs 170000 [] aZ (M aZ rfl) Zo
  rw[al]
  cases r with
  |error F=>exact⟨_,rfl⟩
  |ok p=>
   obtain⟨am,k⟩:=p
   simp only[]
   cases n2 am with
   |none=>exact⟨_,rfl⟩
   |some ak=>exact⟨_,rfl⟩
noncomputable def Dl(s:aR):Except (Int×Int) (List Go.aL.Node):=match Dm s 170000 with
 |some r=>r
 |none=> .error (0,0)
def aiD{s:aR}(aC:s.length<=5000):Dm s 170000=some (Dl s):=by
 obtain⟨r,a⟩:=aBi aC
 unfold Dl
 rw[a]
variable{X:ca}{h:S ag}{j:Nat}
def WK(aw:jd X)(dZ:JQ X)(gp:xd X){s:aR}(aC:s.length<=5000)(aj:∀c∈s,c<256)(aF:(o X).a8<=j){a0:E}(az:gr a0=some (.Z (s.length:Int)))(AB:∀R aS,br X h j R aS->B5 X R a0=some (.str s)):
 a2 X 6 [a0] h j (λac R an=>X3 X j (Dl s) ac R an/\br X h j R an) zL:=
 aBk aw dZ gp (Zj _) Zo aj aF az AB (aiD aC)
end Go.Proofs.YtpeabpmnlmaabaaGreatDoor

namespace Go.Proofs.YtpeabpmnlmaabaaGreatDoor
open Go.bg Go.aL
noncomputable section
def tD(nm:aR):Nat->List Go.aL.Node->Option Nat
 |_,[]=>none
 |u,g::k=>if g.name=nm then some u else tD nm (u+1) k
def mz(am:List Go.aL.Node)(nm:aR):Option Nat:=tD nm 0 am
section
variable{X:ca}{h R aQ aP:S ag}{j an aV aX:Nat}{P:Nat->Prop}{am:List Go.aL.Node}
def axZ(aw:dk X){g:Go.aL.Node}{row:List E}(aF:(o X).a8<=j)(bV:pG X h P g row){c:Nat}{nm:aR}(aA:c<j)(xQ:aU X h (.ptr c 0)=some (.str nm)):
 a2 X 102 [.agg row, .ptr c 0] h j (λac R an=>ac= .bool (decide (g.name=nm))/\br X h j R an) zL:=by
 refine zG aw (akY X) ?_
 rw[akZ]
 unfold X8
 obtain⟨cQ,c4,aO,eo,bQ,cl,cU,fe,MK,rfl,_⟩:=bV
 refine cj @xQ ⟨?_⟩
 exact⟨rfl,dH⟩
def axR(aw:dk X){aO:E}{ce:Nat}{be:List (List E)}(aF:(o X).a8<=j)(cG:dV X h P ce aO 6 be)(wn:uG X h P am be)(bs:∀e,P e->e<j){c:Nat}{nm:aR}(aA:c<j)(xQ:aU X h (.ptr c 0)=some (.str nm)):
 a2 X 101 [aO, .func (.func 102) [] [.ptr c 0]] h j (λac R an=>ac= .Z (match mz am nm with|some u=>(u:Int)|none=> -1)/\br X h j R an) zL:=by
 refine zG aw (akW X) ?_
 rw[akX]
 unfold X7
 have xT:=wn.wide
 have d2:=cG.len
 have h1:=cG.many
 rw[xT.1]at d2 h1
 refine cj @d2 ⟨?_⟩
 refine fE (λm I R aS=>∃(V:Nat),I.g 0=some aO/\I.g 1=some (.func (.func 102) [] [.ptr c 0])/\I.g 7=some (.Z (am.length:Int))/\I.g 8=some (.Z (V:Int))/\V+m=am.length/\br X h j R aS/\mz am nm=tD nm V (am.drop V))
  am.length ⟨0,bo,bo,bo,fY,Zo,br.refl _ _,rfl⟩ ?_
 rintro m I aP aX ⟨V,t0,t1,e9,gQ,bF,bI,b4⟩
 have fN:=bI.le
 cases m with
 |zero=>
  have d:=zA V am.length
  rw[ZC Zo]at b4
  refine er @gQ @e9 @d ⟨?_⟩
  exact⟨by rw[b4];rfl,bI⟩
 |succ m=>
  have d:=zB V am.length
  have bC:=zE V
  obtain⟨g,bV⟩:=zC am V
  have aJ:am.drop V=g::am.drop (V+1):=by
   obtain⟨af,z⟩:=Zb.1 bV
   rw[Zr af,z]
  obtain⟨row,fD,jR⟩:=wn.get V g bV
  have aH:=λe (z:P e)=>bI.ab e (bs e z)
  have dA:=cG.fx V (by rw[xT.1];omega)
  have iB:=(cG.ab aH).row Zd fD
  have Un:aU X aP (.ptr c 0)=some (.str nm):=zK (bI.ab c aA) xQ
  rw[aJ,tD]at b4
  refine eh @gQ @e9 @t1 @t0 @d @dA @iB ⟨?_⟩
  refine(axZ aw Zo (jR.ab (a7:=P) aH (λ_ a=>a)) Zo Un).Zm ?_
  rintro ac a6 bz ⟨rfl,cp⟩
  by_cases g1:g.name=nm
  ·rw[Zp g1]at b4
   have cM:decide (g.name=nm)=true:=by simp[g1]
   rw[cM]
   refine cL ⟨?_⟩
   exact⟨by rw[b4],bI.trans cp⟩
  ·rw[Zg g1]at b4
   have cM:decide (g.name=nm)=false:=by simp[g1]
   rw[cM]
   refine cS @gQ @bC ⟨?_⟩
   exact⟨m,Zo,V+1,aW t0,aW t1,aW e9,bo,Zo,bI.trans cp,b4⟩
def adz(b:Nat):db X h .eql 23 true (.ptr b 0) .cN=some .zF:=Zk
def ahX{C:aN}{h:S ag}(x:Int):ts C h .max [3,3] [.Z x, .Z 0]=some (.Z (max x 0)):=by
 show pJ true (.Z x) [.Z 0]=_
 simp only[pJ,fw,vf,ZG]
 congr 2
 simp only[Zh]
 split<;>omega
def Te(aw:dk X){v:E}(aF:(o X).a8<=j)(bV:oX X h P am v)(bs:∀e,P e->e<j)(nm:aR):
 a2 X 79 [v, .str nm] h j (λac R an=>ac= .tuple [.Z (((mz am nm).getD 0:Nat):Int), .bool (mz am nm).isSome]/\br X h j R an) zL:=by
 refine zG aw (an5 X) ?_
 rw[an6]
 unfold abu
 obtain⟨b,aO,ce,be,rfl,mY,a0,cG,wn⟩:=bV
 have f5:=bs b mY
 refine cS @adz @a0 ⟨?_⟩
 refine e0 (λaQ=>W X aQ j=zD [.str nm] 1/\br X h j aQ (j+1)) ⟨bh aF,dH⟩ ?_
 rintro aQ ⟨bP,bL⟩
 have aH:=λe (z:P e)=>bL.ab e (bs e z)
 refine(axR (j:=j+1) (h:=aQ) aw Zo (cG.ab aH) (wn.ab (a7:=P) aH (λ_ a=>a)) (λe z=>zz (bs e z)) Zo (by rw[bG bP];rfl)).Zm ?_
 rintro ac aP aX ⟨rfl,bI⟩
 cases b4:mz am nm with
 |none=>
  refine cj @ahX ⟨?_⟩
  exact⟨rfl,bL.trans bI⟩
 |some u=>
  have d:decide ((0:Int)<=(u:Int))=true:=zP
  have bn:max (u:Int) 0=(u:Int):=Zo
  refine er @ahX @d @bn ⟨?_⟩
  exact⟨rfl,bL.trans bI⟩
end
mutual
def DB{gh:Type}(step:gh->bp->gh×Bool):gh->bp->gh
 |s, .mk u F nm no t n args=>if (step s (.mk u F nm no t n args)).2=true then yF step (step s (.mk u F nm no t n args)).1 args else(step s (.mk u F nm no t n args)).1
def yF{gh:Type}(step:gh->bp->gh×Bool):gh->List bp->gh
 |s,[]=>s
 |s,D::k=>yF step (DB step s D) k
end
def aEP{gh:Type}(step:gh->bp->gh×Bool)(s:gh)(D:bp):DB step s D=if (step s D).2=true then yF step (step s D).1 D.args else(step s D).1:=by
 cases D;rw[DB];rfl
def QV{D F:bp}(a:F∈D.args):SizeOf.sizeOf F<SizeOf.sizeOf D:=by
 cases D with
 |mk u at_ nm no t n args=>
  have cF:F∈args:=a
  have:=List.sizeOf_lt_of_mem cF
  simp
  omega
section
variable{X:ca}{h R aQ aP:S ag}{j an aV aX:Nat}
def aEU(aw:dk X){gh:Type}(step:gh->bp->gh×Bool)(P:Nat->Prop)(dB:gh->S ag->Nat->Prop)(fi:S ag)(dG:bp->E->Prop)(d9:∀D b aO ce bk,dG D (.ptr b 0)->aU X fi (.ptr b 8)=some aO->dV X fi P ce aO 1 (bk.map λv=>[v])->de X fi P D.args bk->∀(i:Nat) F w,D.args[i]? =some F->bk[i]? =some w->dG F w)(u:Nat)(ox ha:List E)
 (qV:∀(s:gh) (D:bp) (v:E) (h:S ag) (j:Nat),dB s h j->dG D v->cn X h P D v->(∀e,P e->W X h e=W X fi e)->a2 X u ((ox++[v])++ha) h j (λac R an=>ac= .bool (step s D).2/\dB (step s D).1 R an/\∀e,P e->W X R e=W X h e) zL):
 ∀(N:Nat) (D:bp),SizeOf.sizeOf D<N->∀(s:gh) (v:E) (h:S ag) (j:Nat),dB s h j->dG D v->cn X h P D v->(∀e,P e->W X h e=W X fi e)->
  a2 X 16 [v, .func (.func u) ox ha] h j (λac R an=>ac= .tuple []/\dB (DB step s D) R an/\∀e,P e->W X R e=W X h e) zL:=by
 intro N
 induction N with
 |zero=>intro D a;omega
 |succ N ah=>
  intro D jw s v h j gf Y bA K6
  refine zG aw (aar X) ?_
  rw[aas]
  unfold RK
  obtain⟨b,aO,ce,bk,rfl,aj,_,_,_,_,_,_,_,_,jf,cG,has⟩:=id bA.open
  have d2:=cG.len
  have qW:=has.len
  rw[Zi,qW]at d2
  have h1:=cG.many
  rw[Zi,qW]at h1
  rw[aEP]
  refine cj @Jd ⟨?_⟩
  refine(qV s D _ h j gf Y bA K6).Zm ?_
  rintro ac aQ aV ⟨rfl,Co,jx⟩
  cases aF0:(step s D).2 with
  |false=>
   refine cL ⟨?_⟩
   exact⟨rfl,Co,jx⟩
  |true=>
   have J0:aU X aQ (.ptr b 8)=some aO:=zK (jx b aj) jf
   refine cS @J0 @d2 ⟨?_⟩
   refine fE (λm I R aS=>∃(V:Nat) (e1:gh),I.g 1=some (.func (.func u) ox ha)/\I.g 17=some aO/\I.g 18=some (.Z (D.args.length:Int))/\I.g 19=some (.Z (V:Int))/\V+m=D.args.length/\dB e1 R aS/\(∀e,P e->W X R e=W X h e)/\yF step (step s D).1 D.args=yF step e1 (D.args.drop V))
    D.args.length ⟨0,_,bo,bo,bo,fY,Zo,Co,jx,rfl⟩ ?_
   rintro m I aP aX ⟨V,e1,t1,wX,yx,s4,bF,wb,hD,bb⟩
   cases m with
   |zero=>
    have d:=zA V D.args.length
    rw[ZC Zo,yF]at bb
    refine er @s4 @yx @d ⟨?_⟩
    exact⟨rfl,by simp only[ZG];rw[bb];exact wb,hD⟩
   |succ m=>
    have d:=zB V D.args.length
    have bC:=zE V
    obtain⟨F,aE⟩:=zC D.args V
    have aJ:D.args.drop V=F::D.args.drop (V+1):=by
     obtain⟨af,z⟩:=Zb.1 aE
     rw[Zr af,z]
    obtain⟨w,nt,Lb⟩:=has.get V F aE
    obtain⟨bP,b2,cI⟩:=(cG.ab hD).one nt
    rw[aJ,yF]at bb
    refine eh @s4 @yx @wX @t1 @d @bP @b2 ⟨?_⟩
    have eA:=QV (Zl aE)
    refine(ah F Zo e1 w aP aX wb (d9 D b aO ce bk Y (by rw[cw, <-K6 b aj, <-cw];exact jf) (cG.ab λe z=>(K6 e z).symm) (de.ab (λe z=>(K6 e z).symm) _ _ has) V F w aE nt) (cn.ab hD _ _ Lb) (λe z=>(hD e z).trans (K6 e z))).Zm ?_
    rintro ac a6 bz ⟨rfl,At,la⟩
    refine cS @s4 @bC ⟨?_⟩
    exact⟨m,Zo,V+1,_,aW t1,aW wX,aW yx,bo,Zo,At,λe z=>by rw[la e z,hD e z],bb⟩
def aET(aw:dk X){gh:Type}(step:gh->bp->gh×Bool)(P:Nat->Prop)(dB:gh->S ag->Nat->Prop)(u:Nat)(ox ha:List E)
 (qV:∀(s:gh) (D:bp) (v:E) (h:S ag) (j:Nat),dB s h j->cn X h P D v->a2 X u ((ox++[v])++ha) h j (λac R an=>ac= .bool (step s D).2/\dB (step s D).1 R an/\∀e,P e->W X R e=W X h e) zL)
 (N:Nat)(D:bp)(jw:SizeOf.sizeOf D<N)(s:gh)(v:E)(h:S ag)(j:Nat)(gf:dB s h j)(bA:cn X h P D v):
  a2 X 16 [v, .func (.func u) ox ha] h j (λac R an=>ac= .tuple []/\dB (DB step s D) R an/\∀e,P e->W X R e=W X h e) zL:=
 aEU aw step P dB h (λ_ _=>True) (λ_ _ _ _ _ _ _ _ _ _ _ _ _ _=>trivial) u ox ha (λs D v h j gf _ bA _=>qV s D v h j gf bA) N D jw s v h j gf trivial bA (λ_ _=>rfl)
end
end
end Go.Proofs.YtpeabpmnlmaabaaGreatDoor

