/- A part of the last text's proof; no condition of its own -/
import Derived.Test.YtpfajohmofnkfaaGreatDoorYk
set_option maxHeartbeats 8000000
set_option linter.all false
namespace Go.Proofs.YtpfajohmofnkfaaGreatDoor
open Go.bd Go.aR
noncomputable section
def tS:bi->Nat->Nat×Nat
 |[],n=>(n,0)
 |c::k,n=>if iS c then(if 1844674407370955162<=n then(18446744073709551615,1)else if 18446744073709551616<=n*10+(c-48)then(18446744073709551615,1)else tS k (n*10+(c-48)))
  else(0,2)
def kM(s:bi):Nat×Nat:=if s=[]then(0,2)else tS s 0
def xY:Nat->D
 |0=> .nilIface
 |n+1=> .iface 281 (.Z ((n+1:Nat):Int))
def aby{C:aL}{h:K ag}{j:Nat}{s:bi}{ak:bI}(a:s.length<=1048576)(q:ak (.fl j 0 s.length 1) (bn C h j (some (.cells (K.ofList (s.map λn:Nat=>D.int .u8 (n:Int)) 0 .nil) s.length (.grow [])))) (j+1)):hZ (Qo C h j (.str s)) h j ak:=by
 refine kN (v:= .fl j 0 s.length 1) (T:=bn C h j (some (.cells (K.ofList (s.map λn:Nat=>D.int .u8 (n:Int)) 0 .nil) s.length (.grow [])))) (an:=j+1) ?_ q
 simp[Qo,uA,ll a,nE]
def aip{x:Int}(I:0<=x)(J:x<18446744073709551616):p9 .u64 x=x:=by
 simp only[p9];exact YT I J
def avx{x e:Nat}(a:x+e<18446744073709551616):bq .add (.int .u64 (x:Int)) (.int .u64 (e:Int))=some (.int .u64 ((x+e:Nat):Int)):=by
 rw[afm];congr 2;rw[YT Zo Zo];rfl
def avy{x e:Nat}(a:x*e<18446744073709551616):bq .mul (.int .u64 (x:Int)) (.int .u64 (e:Int))=some (.int .u64 ((x*e:Nat):Int)):=by
 have:(x:Int)*(e:Int)=((x*e:Nat):Int):=by simp
 simp only[bq,mg,mD,lZ,j3,eX,lw,this]
 rw[aip Zo Zo,GY]
def afo{x e:Nat}(a:e<=x)(J:x<256):bq .sub (.int .u8 (x:Int)) (.int .u8 (e:Int))=some (.int .u8 ((x-e:Nat):Int)):=by
 have:(x:Int) -(e:Int)=((x-e:Nat):Int):=Zo
 have w:p9 .u8 ((x-e:Nat):Int)=((x-e:Nat):Int):=by simp only[p9];exact YT Zo Zo
 simp only[bq,mg,mD,lZ,j3,eX,lw,this,w,GY]
def avw{x e:Nat}(J:x+e<256):bq .add (.int .u8 (x:Int)) (.int .u8 (e:Int))=some (.int .u8 ((x+e:Nat):Int)):=by
 have:(x:Int)+(e:Int)=((x+e:Nat):Int):=Zo
 have w:p9 .u8 ((x+e:Nat):Int)=((x+e:Nat):Int):=by simp only[p9];exact YT Zo Zo
 simp only[bq,mg,mD,lZ,j3,eX,lw,this,w,GY]
section
variable{X:cb}{h T aP aM:K ag}{j an aG a1 gc:Nat}{s:bi}{i:Nat}
def ah6(aw:iI X)(aF:s.length<=65536)(aj:∀c∈s,c<256)(aE:(o X).a2<=j){b:Int}(aso:b=0\/b=64):
 aY X 201 [.str s, .Z 10, .Z b] h j (λac T an=>ac= .tuple [.int .u64 ((kM s).1:Int),xY (kM s).2]/\bo X h j T an) (λ_ _ _=>False):=by
 refine zx aw.todu (akS X) ?_
 rw[akT]
 unfold β
 by_cases aS:s=[]
 ·subst aS
  have d:decide (([]:List Nat)=[])=true:=rfl
  refine ci @d ⟨?_⟩
  exact⟨rfl,dM⟩
 have d:decide (s=[])=false:=by simp[aS]
 have aJ:decide ((2:Int)<=10)=true:=rfl
 have JU:decide ((10:Int)<=36)=true:=rfl
 have aoA:decide ((10:Int)=10)=true:=rfl
 have ec:bq .shl (.int .u64 1) (.int .u64 64)=some (.int .u64 0):=by rfl
 have rG:bq .sub (.int .u64 0) (.int .u64 1)=some (.int .u64 18446744073709551615):=by rfl
 have abM:nW .u64 (.Z 64)=some (.int .u64 64):=by rfl
 have aoy:(64:Int)%18446744073709551616=64:=rfl
 have abN:(10:Int)%18446744073709551616=10:=rfl
 have qm:decide ((10:Int)=0)=false:=rfl
 have aua:kM s=tS s 0:=by simp[kM,aS]
 rw[aua]
 rcases aso with rfl|rfl
 all_goals
  have cX:decide ((0:Int)=0)=true:=rfl
  have cF:decide ((64:Int)=0)=false:=rfl
  have eS:decide ((64:Int)<0)=false:=rfl
  have iK:decide ((64:Int)<64)=false:=rfl
  refine eF @d @aJ @JU @aoA @qm @cX (Za @cF (Za @eS (Za @iK (Za @ec (Za @rG (Za @abM @aoy)))))) ⟨?_⟩
  refine aby Zo ?_
  have SK:Y X (bn X h j (some (.cells (K.ofList (s.map λn:Nat=>D.int .u8 (n:Int)) 0 .nil) s.length (.grow [])))) j=some (.cells (K.ofList (s.map λn:Nat=>D.int .u8 (n:Int)) 0 .nil) s.length (.grow [])):=bg aE
  have S9:bo X h j (bn X h j (some (.cells (K.ofList (s.map λn:Nat=>D.int .u8 (n:Int)) 0 .nil) s.length (.grow [])))) (j+1):=dM
  generalize bn X h j (some (.cells (K.ofList (s.map λn:Nat=>D.int .u8 (n:Int)) 0 .nil) s.length (.grow [])))=vq at*
  refine cK ⟨?_⟩
  refine fK (λm H T aU=>∃(W n:Nat),H.g 99=some (.fl j 0 s.length 1)/\H.g 100=some (.Z (s.length:Int))/\H.g 101=some (.Z (W:Int))/\H.g 13=some (.int .u64 (n:Int))/\H.g 10=some (.int .u64 1844674407370955162)/\H.g 11=some (.int .u64 18446744073709551615)/\H.g 12=some .zF/\H.g 8=some .zF/\H.g 1=some (.Z 10)/\W+m=s.length/\n<18446744073709551616/\T=vq/\j+1<=aU/\tS s 0=tS (s.drop W) n)
   s.length ⟨0,0,bw,bw,fW,fW,bw,bw,bw,bw,bw,Zo,Zo,rfl,Zo,rfl⟩ ?_
  rintro m H aM a1 ⟨W,n,Mo,I0,Mm,jt,oi,pc,rH,hb,t1,bK,aDw,rfl,lv,ay⟩
  have bJ:bo X h j aM a1:=⟨Zo,S9.ab⟩
  cases m with
  |zero=>
   have ga:=zr W s.length
   rw[ZH (by omega:s.length<=W),tS]at ay
   rw[ay]
   refine gg @Mm @I0 @rH @jt @ga ⟨?_⟩
   exact⟨rfl,bJ⟩
  |succ m=>
   have ga:=zs W s.length
   have bF:=zv W
   obtain⟨c,aA⟩:=zt s W
   have aH:s.drop W=c::s.drop (W+1):=by
    obtain⟨af,z⟩:=Zc.1 aA
    rw[Zv af,z]
   have OC:=aj c (Zj aA)
   have dS:gv 1 (.fl j 0 s.length 1) (.Z (W:Int))=some (.ptr j W):=by rw[H0 _ Zo];simp
   have tp:aO X aM (.ptr j W)=some (.int .u8 (c:Int)):=by rw[bO SK,k4];simp[aA]
   rw[aH,tS]at ay
   rw[ay]
   have aD9:decide ((c:Int)=95)=decide (c=95):=by simp;omega
   have PA:nW .u8 (.Z 10)=some (.int .u8 10):=rfl
   by_cases qx:iS c=true
   ·have TF:48<=c/\c<=57:=by simpa[iS]using qx
    rw[Zu qx]
    have sn:decide ((c:Int)=95)=false:=by simp;omega
    have bR:decide ((48:Int)<=(c:Int))=true:=by simp;omega
    have cq:decide ((c:Int)<=57)=true:=by simp;omega
    have cP:bq .sub (.int .u8 (c:Int)) (.int .u8 48)=some (.int .u8 ((c-48:Nat):Int)):=afo (e:=48) Zo OC
    have d0:decide ((10:Int)<=((c-48:Nat):Int))=false:=by simp;omega
    by_cases OD:1844674407370955162<=n
    ·rw[Zu OD]
     have dU:decide ((1844674407370955162:Int)<=(n:Int))=true:=by simp;omega
     refine eF @Mm @I0 @Mo @hb @t1 @ga (Za @dS (Za @tp (Za @sn (Za @bR (Za @cq (Za @cP (Za @d0 (Za @PA (Za @jt (Za @oi (Za @dU @pc))))))))))) ⟨?_⟩
     exact⟨rfl,bJ⟩
    ·rw[Zg OD]
     have dU:decide ((1844674407370955162:Int)<=(n:Int))=false:=by simp;omega
     have dy:bq .mul (.int .u64 (n:Int)) (.int .u64 10)=some (.int .u64 ((n*10:Nat):Int)):=avy (e:=10) Zo
     have gQ:((c-48:Nat):Int)%18446744073709551616=((c-48:Nat):Int):=YT Zo Zo
     by_cases Uk:18446744073709551616<=n*10+(c-48)
     ·rw[Zu Uk]
      have hS:bq .add (.int .u64 ((n*10:Nat):Int)) (.int .u64 ((c-48:Nat):Int))=some (.int .u64 ((n*10+(c-48) -18446744073709551616:Nat):Int)):=by
       have atH:(((n*10:Nat):Int)+((c-48:Nat):Int))%18446744073709551616=((n*10+(c-48) -18446744073709551616:Nat):Int):=Zo
       rw[afm,atH]
      have hs:decide (((n*10+(c-48) -18446744073709551616:Nat):Int)<((n*10:Nat):Int))=true:=by simp only[Zh];omega
      refine eF @Mm @I0 @Mo @hb @t1 @ga (Za @dS (Za @tp (Za @sn (Za @bR (Za @cq (Za @cP (Za @d0 (Za @PA (Za @jt (Za @oi (Za @dU (Za @abN (Za @dy (Za @gQ (Za @hS (Za @hs @pc)))))))))))))))) ⟨?_⟩
      exact⟨rfl,bJ⟩
     ·have HA:=ay
      rw[Zu qx,Zg OD,Zg Uk]at HA
      rw[Zg Uk]
      have hS:bq .add (.int .u64 ((n*10:Nat):Int)) (.int .u64 ((c-48:Nat):Int))=some (.int .u64 ((n*10+(c-48):Nat):Int)):=avx Zo
      have hs:decide (((n*10+(c-48):Nat):Int)<((n*10:Nat):Int))=false:=by simp only[Zb];omega
      have wt:decide ((18446744073709551615:Int)<((n*10+(c-48):Nat):Int))=false:=by simp only[Zb];omega
      refine eF @Mm @I0 @Mo @hb @t1 @ga (Za @dS (Za @tp (Za @sn (Za @bR (Za @cq (Za @cP (Za @d0 (Za @PA (Za @jt (Za @oi (Za @dU (Za @abN (Za @dy (Za @gQ (Za @hS (Za @hs (Za @wt (Za @pc @bF)))))))))))))))))) ⟨?_⟩
      exact⟨m,Zo,W+1,n*10+(c-48),a7 Mo,a7 I0,bw,bw,a7 oi,a7 pc,a7 rH,a7 hb,a7 t1,Zo,Zo,rfl,Zo,by first|exact HA|rw[HA]|rfl⟩
   ·have TF:¬(48<=c/\c<=57):=by simpa[iS]using qx
    rw[Zg qx]
    have aiW:rz c<256:=Nat.mod_lt _ Zo
    have cG:decide ((97:Int)<=(rz c:Int))=decide (97<=rz c):=by simp;omega
    have cw:decide ((rz c:Int)<=122)=decide (rz c<=122):=by simp;omega
    have bR:decide ((48:Int)<=(c:Int))=decide (48<=c):=by simp;omega
    have cq:decide ((c:Int)<=57)=decide (c<=57):=by simp;omega
    have fin:97<=rz c->rz c<=122->∃bz:Nat,bq .sub (.int .u8 (rz c:Int)) (.int .u8 97)=some (.int .u8 ((rz c-97:Nat):Int))/\bq .add (.int .u8 ((rz c-97:Nat):Int)) (.int .u8 10)=some (.int .u8 ((rz c-97+10:Nat):Int))/\decide ((10:Int)<=((rz c-97+10:Nat):Int))=true:=λI J=>
     ⟨0,afo (e:=97) I aiW,avw (e:=10) Zo,by simp only[Zh];omega⟩
    by_cases aCI:c=95<;>by_cases arz:48<=c<;>by_cases arA:c<=57<;>try omega
    all_goals
     simp only[arz,arA,Ys,Yd]at bR cq
     first|have afz:decide ((c:Int)=95)=true:=by simp only[Zh];omega|have afz:decide ((c:Int)=95)=false:=by simp only[Zb];omega
     refine eF @Mm @I0 @Mo @hb @t1 @ga (Za @dS (Za @tp (Za @afz (Za @bR @cq)))) ⟨?_⟩
     refine(Vr aw.todu c).Zm ?_
     rintro ac aX bf ⟨rfl,rfl,rfl⟩
     by_cases qA:97<=rz c
     ·simp only[qA,Ys]at cG
      refine ci @cG ⟨?_⟩
      refine(Vr aw.todu c).Zm ?_
      rintro ac aX bf ⟨rfl,rfl,rfl⟩
      by_cases n4:rz c<=122
      ·simp only[n4,Ys]at cw
       refine ci @cw ⟨?_⟩
       refine(Vr aw.todu c).Zm ?_
       rintro ac aX bf ⟨rfl,rfl,rfl⟩
       obtain⟨_,eM,eV,iZ⟩:=fin qA n4
       refine gg @eM @eV @iZ @PA @t1 ⟨?_⟩
       exact⟨rfl,bJ⟩
      ·simp only[n4,Yd]at cw
       refine ci @cw ⟨?_⟩
       exact⟨rfl,bJ⟩
     ·simp only[qA,Yd]at cG
      refine ci @cG ⟨?_⟩
      exact⟨rfl,bJ⟩
end
structure lV(X:cb):Prop where
 aAi:∃b,∀h,aO X h (.ptr 6 0)=some (.iface 304 (.ptr b 0))
 seven:∃b,∀h,aO X h (.ptr 7 0)=some (.iface 304 (.ptr b 0))
section
variable{X:cb}{h T aP aM:K ag}{j an aG a1 gc:Nat}{s:bi}{i:Nat}
def api:dw X h .eql 238 false (.iface 281 (.Z 2)) (.iface 281 (.Z 2))=some .zT:=Zk
def aph:dw X h .eql 238 false (.iface 281 (.Z 1)) (.iface 281 (.Z 2))=some .zF:=Zk
def apg:dw X h .eql 238 false (.iface 281 (.Z 1)) (.iface 281 (.Z 1))=some .zT:=Zk
def Is(q:Int):dw X h .neq 238 true (.iface 281 (.Z q)) .nilIface=some .zT:=Zk
def Fp:dw X h .neq 238 true .nilIface .nilIface=some .zF:=Zk
def agr(b:Nat):dw X h .neq 238 true (.iface 283 (.ptr b 0)) .nilIface=some .zT:=Zk
def aA3(aw:iI X)(bT:lV X)(f:bi)(aF:s.length<=65536)(qw:∀c∈s,c<256)(aE:(o X).a2<=j):
 aY X 226 [.str f, .str s] h j (λac T an=>(∃b,ac= .ptr b 0)/\bo X h j T an) (λ_ _ _=>False):=by
 refine zx aw.todu (alt X) ?_
 rw[alu]
 unfold υ
 obtain⟨b,aj⟩:=bT.aAi
 refine ci @aj ⟨?_⟩
 refine GH (aw.clone s qw aF) ?_
 refine ci @aj ⟨?_⟩
 refine g2 (by simp[D.same]) ?_
 exact⟨⟨_,rfl⟩,dM⟩
def ay9(aw:iI X)(bT:lV X)(f:bi)(aF:s.length<=65536)(qw:∀c∈s,c<256)(aE:(o X).a2<=j):
 aY X 227 [.str f, .str s] h j (λac T an=>(∃b,ac= .ptr b 0)/\bo X h j T an) (λ_ _ _=>False):=by
 refine zx aw.todu (alv X) ?_
 rw[alw]
 unfold φ
 obtain⟨b,aj⟩:=bT.seven
 refine ci @aj ⟨?_⟩
 refine GH (aw.clone s qw aF) ?_
 refine ci @aj ⟨?_⟩
 refine g2 (by simp[D.same]) ?_
 exact⟨⟨_,rfl⟩,dM⟩
def NJ(aw:iI X)(bT:lV X)(f:bi)(x e:D)(aF:s.length<=65536)(qw:∀c∈s,c<256)(aE:(o X).a2<=j){q:Nat}(aD:q=1\/q=2):
 aY X 202 [.str f, .str s,x,e,xY q] h j (λac T an=>(∃b,ac= .iface 283 (.ptr b 0))/\bo X h j T an) (λ_ _ _=>False):=by
 refine zx aw.todu (akU X) ?_
 rw[akV]
 unfold γ
 rcases aD with rfl|rfl
 ·have bF:xY 1= .iface 281 (.Z 1):=rfl
  rw[bF]
  refine cT @aph @apg ⟨?_⟩
  refine(ay9 aw bT f aF qw aE).Zm ?_
  rintro ac aX bf ⟨⟨b,rfl⟩,cg⟩
  refine cK ⟨?_⟩
  exact⟨⟨_,rfl⟩,cg⟩
 ·have bF:xY 2= .iface 281 (.Z 2):=rfl
  rw[bF]
  refine ci @api ⟨?_⟩
  refine(aA3 aw bT f aF qw aE).Zm ?_
  rintro ac aX bf ⟨⟨b,rfl⟩,cg⟩
  refine cK ⟨?_⟩
  exact⟨⟨_,rfl⟩,cg⟩
def ayX:∀(k:bi) (n:Nat),(tS k n).2=0\/(tS k n).2=1\/(tS k n).2=2:=by
 intro k
 induction k with
 |nil=>intro n;exact .inl rfl
 |cons c k al=>
  intro n
  rw[tS]
  split
  ·split
   ·exact .inr (.inl rfl)
   ·split
    ·exact .inr (.inl rfl)
    ·exact al _
  ·exact .inr (.inr rfl)
def ag9(k:bi):(kM k).2=0\/(kM k).2=1\/(kM k).2=2:=by
 unfold kM;split
 ·exact .inr (.inr rfl)
 ·exact ayX _ _
def ayx(aw:iI X)(bT:lV X)(aF:s.length<=65536)(aj:∀c∈s,c<256)(aE:(o X).a2<=j):
 aY X 167 [.str s, .Z 10, .Z 64] h j (λac T an=>(∃E,ac= .tuple [.int .u64 ((kM s).1:Int),E]/\((kM s).2=0/\E= .nilIface\/(kM s).2≠0/\∃b,E= .iface 283 (.ptr b 0)))/\bo X h j T an) (λ_ _ _=>False):=by
 refine zx aw.todu (aj6 X) ?_
 rw[aj7]
 unfold XH
 refine(ah6 aw aF aj aE (.inr rfl)).Zm ?_
 rintro ac aX bf ⟨rfl,cg⟩
 have ip:=cg.le
 rcases ag9 s with a|a|a
 ·rw[a]
  have bF:xY 0= .nilIface:=rfl
  rw[bF]
  refine ci @Fp ⟨?_⟩
  exact⟨⟨_,rfl, .inl ⟨rfl,rfl⟩⟩,cg⟩
 ·rw[a]
  have bF:xY 1= .iface 281 (.Z 1):=rfl
  rw[bF]
  refine ci @Is ⟨?_⟩
  refine(NJ (j:=bf) (h:=aX) aw bT [80,97,114,115,101,85,105,110,116] (.Z 10) (.Z 64) aF aj (ZB aE ip) (q:=1) Zd).Zm ?_
  rintro ac bC da ⟨⟨b,rfl⟩,dv⟩
  refine cK ⟨?_⟩
  exact⟨⟨_,rfl, .inr ⟨Zd,b,rfl⟩⟩,cg.trans dv⟩
 ·rw[a]
  have bF:xY 2= .iface 281 (.Z 2):=rfl
  rw[bF]
  refine ci @Is ⟨?_⟩
  refine(NJ (j:=bf) (h:=aX) aw bT [80,97,114,115,101,85,105,110,116] (.Z 10) (.Z 64) aF aj (ZB aE ip) (q:=2) Zd).Zm ?_
  rintro ac bC da ⟨⟨b,rfl⟩,dv⟩
  refine cK ⟨?_⟩
  exact⟨⟨_,rfl, .inr ⟨Zd,b,rfl⟩⟩,cg.trans dv⟩
end
def W0(E:D):Prop:=E= .nilIface\/E= .iface 281 (.Z 1)\/E= .iface 281 (.Z 2)
def DM(s:bi):Prop:=∀c∈s,c≠43/\c≠45
def yX(s:bi):Nat:=s.foldl (λn c=>n*10+(c-48)) 0
def ayY:∀(k:bi) (n:Nat),n<18446744073709551616->(tS k n).1<18446744073709551616:=by
 intro k
 induction k with
 |nil=>intro n a;exact a
 |cons c k al=>
  intro n a
  rw[tS]
  split
  ·split
   ·show 18446744073709551615<_;omega
   ·split
    ·show 18446744073709551615<_;omega
    ·exact al _ Zo
  ·show 0<_;omega
def aha(k:bi):(kM k).1<18446744073709551616:=by
 unfold kM;split
 ·show 0<_;omega
 ·exact ayY _ _ Zo
section
variable{X:cb}{h T aP aM:K ag}{j an aG a1 gc:Nat}{s:bi}{i:Nat}
def agt:dw X h .neq 238 false (.iface 281 (.Z 1)) (.iface 281 (.Z 1))=some .zF:=Zk
def agu:dw X h .neq 238 false (.iface 281 (.Z 2)) (.iface 281 (.Z 1))=some .zT:=Zk
def afs(aw:iI X)(aF:s.length<=65536)(aj:∀c∈s,c<256)(uS:DM s)(aE:(o X).a2<=j):
 aY X 242 [.str s, .Z 10, .Z 0] h j (λac T an=>(∃bz E,ac= .tuple [.Z bz,E]/\W0 E)/\bo X h j T an) (λ_ _ _=>False):=by
 refine zx aw.todu (alL X) ?_
 rw[alM]
 unfold aae
 by_cases aS:s=[]
 ·subst aS
  have d:decide (([]:List Nat)=[])=true:=rfl
  refine ci @d ⟨?_⟩
  exact⟨⟨_,_,rfl, .inr (.inr rfl)⟩,bo.refl _ _⟩
 have d:decide (s=[])=false:=by simp[aS]
 obtain⟨c,fk,rfl⟩:∃c fk,s=c::fk:=by cases s with
  |nil=>exact absurd rfl aS
  |cons c fk=>exact⟨c,fk,rfl⟩
 have dS:n9 (.str (c::fk)) (.Z 0)=some (.int .u8 (c:Int)):=CX (i:=0) .i64 rfl
 have aA:=uS c (Zq ..)
 have bR:decide ((c:Int)=43)=false:=by simp only[Zb];omega
 have cq:decide ((c:Int)=45)=false:=by simp only[Zb];omega
 refine gx @d @dS @bR @cq ⟨?_⟩
 refine(ah6 aw aF aj aE (.inl rfl)).Zm ?_
 rintro ac aX bf ⟨rfl,cg⟩
 have ip:=cg.le
 generalize ay:kM (c::fk)=p
 have oV:=ag9 (c::fk)
 have oW:=aha (c::fk)
 rw[ay]at oV oW
 obtain⟨Mu,aCC⟩:=p
 simp only[]at oV oW ⊢
 have qm:decide ((0:Int)=0)=true:=rfl
 have jr:bq .sub (.Z 64) (.Z 1)=some (.Z 63):=rfl
 have k9:(63:Int)%18446744073709551616=63:=rfl
 have Mg:bq .shl (.int .u64 1) (.int .u64 63)=some (.int .u64 9223372036854775808):=rfl
 have azW:bq .sub (.int .u64 9223372036854775808) (.int .u64 1)=some (.int .u64 9223372036854775807):=rfl
 have azX:nW .i64 (.int .u64 9223372036854775807)=some (.Z 9223372036854775807):=rfl
 rcases oV with rfl|rfl|rfl
 all_goals
  simp only[show xY 0= .nilIface from rfl,show xY 1= .iface 281 (.Z 1) from rfl,show xY 2= .iface 281 (.Z 2) from rfl]
  by_cases OD:9223372036854775808<=Mu
  ·have cX:decide ((9223372036854775808:Int)<=(Mu:Int))=true:=by simp only[Zh];omega
   refine eF @Fp @Is @agt @agu @qm @jr (Za @k9 (Za @Mg (Za @cX (Za @azW @azX)))) ⟨?_⟩
   exact⟨⟨_,_,rfl,by first|exact .inl rfl|exact .inr (.inl rfl)|exact .inr (.inr rfl)⟩,cg⟩
  ·have cX:decide ((9223372036854775808:Int)<=(Mu:Int))=false:=by simp only[Zb];omega
   have azY:nW .i64 (.int .u64 (Mu:Int))=some (.Z (Mu:Int)):=abO Zo Zo
   refine eF @Fp @Is @agt @agu @qm @jr (Za @k9 (Za @Mg (Za @cX @azY))) ⟨?_⟩
   exact⟨⟨_,_,rfl,by first|exact .inl rfl|exact .inr (.inl rfl)|exact .inr (.inr rfl)⟩,cg⟩
end
def afn{x e:Int}(I: -9223372036854775808<=x*e)(J:x*e<9223372036854775808):bq .mul (.Z x) (.Z e)=some (.Z (x*e)):=by
 simp[bq,mg,mD,lZ,lw,wrap64 I J]
def avz{c:Nat}(a:c<256):bq .sub (.int .u8 (c:Int)) (.int .u8 48)=some (.int .u8 (((c+208)%256:Nat):Int)):=by
 have w:p9 .u8 ((c:Int) -48)=(((c+208)%256:Nat):Int):=by
  show((c:Int) -48)%256=_
  omega
 simp only[bq,mg,mD,lZ,j3,eX,lw,w,GY]
def aBL(k:bi)(c:Nat):yX (k++[c])=yX k*10+(c-48):=by simp[yX,List.foldl_append]
section
variable{X:cb}{h T aP aM:K ag}{j an aG a1 gc:Nat}{s:bi}{i:Nat}
def aiK(s:bi)(ac:D):Prop:=∃bz E,ac= .tuple [.Z bz,E]/\W0 E/\(s≠[]->s.length<19->(∀c∈s,iS c=true)->E= .nilIface/\bz=(yX s:Int))
def anz(aw:iI X)(aF:s.length<=65536)(aj:∀c∈s,c<256)(uS:DM s)(aE:(o X).a2<=j):
 aY X 230 [.str s] h j (λac T an=>aiK s ac/\bo X h j T an) (λ_ _ _=>False):=by
 refine zx aw.todu (alx X) ?_
 rw[aly]
 unfold χ
 by_cases aS:s=[]
 ·subst aS
  have qm:decide ((0:Int)<((0:Nat):Int))=false:=rfl
  refine ci @qm ⟨?_⟩
  refine(afs aw aF aj uS aE).Zm ?_
  rintro ac aX bf ⟨⟨bz,E,rfl,bs⟩,cg⟩
  refine cK ⟨?_⟩
  exact⟨⟨bz,E,rfl,bs,λa=>absurd rfl a⟩,cg⟩
 have pF:0<s.length:=YO.2 aS
 have qm:decide ((0:Int)<(s.length:Int))=true:=by simp only[Zh];omega
 by_cases Kj:s.length<19
 ·have cX:decide ((s.length:Int)<19)=true:=by simp only[Zh];omega
  obtain⟨c,yh⟩:∃c,s[0]? =some c:=⟨_,Ze pF⟩
  have dS:n9 (.str s) (.Z 0)=some (.int .u8 (c:Int)):=CX (i:=0) .i64 yh
  have aA:=uS c (Zj yh)
  have bR:decide ((c:Int)=43)=false:=by simp only[Zb];omega
  have cq:decide ((c:Int)=45)=false:=by simp only[Zb];omega
  refine gg @qm @cX @dS @bR @cq ⟨?_⟩
  refine aby Zo ?_
  have SK:Y X (bn X h j (some (.cells (K.ofList (s.map λn:Nat=>D.int .u8 (n:Int)) 0 .nil) s.length (.grow [])))) j=some (.cells (K.ofList (s.map λn:Nat=>D.int .u8 (n:Int)) 0 .nil) s.length (.grow [])):=bg aE
  have S9:bo X h j (bn X h j (some (.cells (K.ofList (s.map λn:Nat=>D.int .u8 (n:Int)) 0 .nil) s.length (.grow [])))) (j+1):=dM
  generalize bn X h j (some (.cells (K.ofList (s.map λn:Nat=>D.int .u8 (n:Int)) 0 .nil) s.length (.grow [])))=vq at*
  refine cK ⟨?_⟩
  refine fK (λm H T aU=>∃(W n p:Nat),H.g 47=some (.fl j 0 s.length 1)/\H.g 48=some (.Z (s.length:Int))/\H.g 49=some (.Z (W:Int))/\H.g 6=some (.Z (n:Int))/\H.g 5=some (.str s)/\W+m=s.length/\p*10^m<=10^18/\n<p/\T=vq/\j+1<=aU/\n=yX (s.take W))
   s.length ⟨0,0,1,bw,bw,fW,fW,bw,Zo,by rw[Nat.one_mul];exact Nat.pow_le_pow_right Zo Zo,Zo,rfl,Zo,rfl⟩ ?_
  rintro m H aM a1 ⟨W,n,p,Wu,Qw,sE,fU,t5,bK,wh,CG,rfl,lv,bD⟩
  have bJ:bo X h j aM a1:=⟨Zo,S9.ab⟩
  cases m with
  |zero=>
   have ga:=zr W s.length
   refine eF @sE @Qw @t5 @fU @ga @dS @cq ⟨?_⟩
   rw[Zx Zo]at bD
   exact⟨⟨_,_,rfl, .inl rfl,λ_ _ _=>⟨rfl,by rw[bD]⟩⟩,bJ⟩
  |succ m=>
   have ga:=zs W s.length
   have bF:=zv W
   obtain⟨F,aC⟩:∃c,s[W]? =some c:=⟨_,Ze Zo⟩
   have ash:=aj F (Zj aC)
   have KT:gv 1 (.fl j 0 s.length 1) (.Z (W:Int))=some (.ptr j W):=by rw[H0 _ Zo];simp
   have tp:aO X aM (.ptr j W)=some (.int .u8 (F:Int)):=by rw[bO SK,k4];simp[aC]
   have cn:=avz ash
   generalize bt:(F+208)%256=w at cn
   by_cases g5:9<w
   ·have jg:decide ((9:Int)<(w:Int))=true:=by simp only[Zh];omega
    refine eF @sE @Qw @Wu @ga @KT @tp (Za @cn @jg) ⟨?_⟩
    refine⟨⟨_,_,rfl, .inr (.inr rfl),λ_ _ j7=> ?_⟩,bJ⟩
    have:=j7 F (Zj aC)
    simp[iS]at this
    omega
   ·have jg:decide ((9:Int)<(w:Int))=false:=by simp only[Zb];omega
    have TF:48<=F/\F<=57/\w=F-48:=Zo
    have en:p*10<=10^18:=by
     have:p*10^(m+1)=(p*10)*10^m:=by rw[Nat.pow_succ];rw[Nat.mul_assoc,zp (10^m) 10]
     rw[this]at wh
     exact ZB (YX _ (Nat.pos_of_ne_zero Zs)) wh
    have dB:p*10*10^m<=10^18:=by
     have:p*10^(m+1)=(p*10)*10^m:=by rw[Nat.pow_succ];rw[Nat.mul_assoc,zp (10^m) 10]
     rw[this]at wh;exact wh
    have gI:p*10<=1000000000000000000:=en
    have eU:bq .mul (.Z (n:Int)) (.Z 10)=some (.Z ((n*10:Nat):Int)):=by rw[afn Zo Zo];rfl
    have iL:nW .i64 (.int .u8 (w:Int))=some (.Z (w:Int)):=abO Zo Zo
    have oG:bq .add (.Z ((n*10:Nat):Int)) (.Z (w:Int))=some (.Z ((n*10+w:Nat):Int)):=by rw[eJ Zo Zo];rfl
    refine eF @sE @Qw @Wu @ga @KT @tp (Za @cn (Za @jg (Za @fU (Za @eU (Za @iL (Za @oG @bF)))))) ⟨?_⟩
    refine⟨m,Zo,W+1,n*10+w,p*10,a7 Wu,a7 Qw,bw,bw,a7 t5,Zo,dB,Zo,rfl,Zo, ?_⟩
    rw[ZY,aC]
    show _=yX (s.take W++[F])
    rw[aBL, <-bD,TF.2.2]
 ·have cX:decide ((s.length:Int)<19)=false:=by simp only[Zb];omega
  refine cT @qm @cX ⟨?_⟩
  refine(afs aw aF aj uS aE).Zm ?_
  rintro ac aX bf ⟨⟨bz,E,rfl,bs⟩,cg⟩
  refine cK ⟨?_⟩
  exact⟨⟨bz,E,rfl,bs,λ_ a=>absurd a Kj⟩,cg⟩
def aiL(s:bi)(ac:D):Prop:=∃bz E,ac= .tuple [.Z bz,E]/\(E= .nilIface\/∃b,E= .iface 283 (.ptr b 0))/\(s≠[]->s.length<19->(∀c∈s,iS c=true)->E= .nilIface/\bz=(yX s:Int))
def abh(aw:iI X)(bT:lV X)(aF:s.length<=65536)(aj:∀c∈s,c<256)(uS:DM s)(aE:(o X).a2<=j):
 aY X 203 [.str s] h j (λac T an=>aiL s ac/\bo X h j T an) (λ_ _ _=>False):=by
 refine zx aw.todu (akW X) ?_
 rw[akX]
 unfold δ
 refine(anz aw aF aj uS aE).Zm ?_
 rintro ac aX bf ⟨⟨bz,E,rfl,bs,af⟩,cg⟩
 have ip:=cg.le
 rcases bs with rfl|rfl|rfl
 ·refine ci @Fp ⟨?_⟩
  exact⟨⟨_,_,rfl, .inl rfl,af⟩,cg⟩
 ·refine ci @Is ⟨?_⟩
  refine(NJ (j:=bf) (h:=aX) aw bT [65,116,111,105] (.Z 0) (.Z 0) aF aj (ZB aE ip) (q:=1) Zd).Zm ?_
  rintro ac bC da ⟨⟨b,rfl⟩,dv⟩
  refine cK ⟨?_⟩
  exact⟨⟨_,_,rfl, .inr ⟨b,rfl⟩,λI J am=>absurd (af I J am).1 Zs⟩,cg.trans dv⟩
 ·refine ci @Is ⟨?_⟩
  refine(NJ (j:=bf) (h:=aX) aw bT [65,116,111,105] (.Z 0) (.Z 0) aF aj (ZB aE ip) (q:=2) Zd).Zm ?_
  rintro ac bC da ⟨⟨b,rfl⟩,dv⟩
  refine cK ⟨?_⟩
  exact⟨⟨_,_,rfl, .inr ⟨b,rfl⟩,λI J am=>absurd (af I J am).1 Zs⟩,cg.trans dv⟩
end
def gR(t:de):Bool:=if t.b then !t.s&&decide (t.w=1)else decide (1<=t.w)&&decide (t.w<=64)
def jG(n:Nat):bi:=if n<10 then[48+n]else[48+n/10,48+n%10]
def nJ(t:de):bi:=if gR t then(if t.b then[98,111,111,108]else(if t.s then 105 else 117)::jG t.w.toNat)else[]
def lD:bi->Option de
 |[]=>none
 |c::k=>if c::k=[98,111,111,108]then some ⟨true,false,1⟩
  else if c=105\/c=117 then((List.range 65).find? λn=>decide (1<=n)&&decide (jG n=k)).map λn:Nat=>⟨false,decide (c=105),(n:Int)⟩
  else none
section
variable{X:cb}{h T aP aM:K ag}{j an aG a1 gc:Nat}{s:bi}{i:Nat}
def Fk(aw:du X)(t:de)(aE:(o X).a2<=j):aY X 182 [.agg (ed t)] h j (λac T an=>ac= .bool (gR t)/\bo X h j T an) (λ_ _ _=>False):=by
 refine zx aw (aks X) ?_
 rw[akt]
 unfold XW ed
 obtain⟨b,s,w⟩:=t
 cases b<;>cases s
 all_goals
  by_cases I:1<=w
  ·have cX:decide ((1:Int)<=w)=true:=by simp[I]
   refine ci @cX ⟨?_⟩
   exact⟨by simp[gR,I],dM⟩
  ·have cX:decide ((1:Int)<=w)=false:=by simp[I]
   refine ci @cX ⟨?_⟩
   exact⟨by simp[gR,I],dM⟩
def aAp:∀n<10,([48,49,50,51,52,53,54,55,56,57,97,98,99,100,101,102,103,104,105,106,107,108,109,110,111,112,113,114,115,116,117,118,119,120,121,122].drop n).take (n+1-n)=jG n:=by decide+kernel
def Qu:bi:=[48,48,48,49,48,50,48,51,48,52,48,53,48,54,48,55,48,56,48,57,49,48,49,49,49,50,49,51,49,52,49,53,49,54,49,55,49,56,49,57,50,48,50,49,50,50,50,51,50,52,50,53,50,54,50,55,50,56,50,57,51,48,51,49,51,50,51,51,51,52,51,53,51,54,51,55,51,56,51,57,52,48,52,49,52,50,52,51,52,52,52,53,52,54,52,55,52,56,52,57,53,48,53,49,53,50,53,51,53,52,53,53,53,54,53,55,53,56,53,57,54,48,54,49,54,50,54,51,54,52,54,53,54,54,54,55,54,56,54,57,55,48,55,49,55,50,55,51,55,52,55,53,55,54,55,55,55,56,55,57,56,48,56,49,56,50,56,51,56,52,56,53,56,54,56,55,56,56,56,57,57,48,57,49,57,50,57,51,57,52,57,53,57,54,57,55,57,56,57,57]
def aAr:Qu.length=200:=by decide+kernel
def aAq:∀n<100,10<=n->(Qu.drop (n*2)).take (n*2+2-n*2)=jG n:=by decide+kernel
def Pu(aw:du X){n:Nat}(aE:n<100):aY X 183 [.Z (n:Int)] h j (λac T an=>ac= .str (jG n)/\T=h/\an=j) (λ_ _ _=>False):=by
 refine zx aw (aku X) ?_
 rw[akv]
 unfold XX
 refine zx aw (ak8 X) ?_
 rw[ak9]
 unfold κ
 refine zx aw (alD X) ?_
 rw[alE]
 unfold aaa
 have qm:decide ((0:Int)<=(n:Int))=true:=by simp only[Zh];omega
 have cX:decide ((n:Int)<100)=true:=by simp only[Zh];omega
 refine cT @qm @cX ⟨?_⟩
 refine zx aw (alP X) ?_
 rw[alQ]
 unfold aag
 by_cases a:n<10
 ·have cF:decide ((n:Int)<10)=true:=by simp only[Zh];omega
  have bF:=zv n
  have cn:nf (.str [48,49,50,51,52,53,54,55,56,57,97,98,99,100,101,102,103,104,105,106,107,108,109,110,111,112,113,114,115,116,117,118,119,120,121,122]) (some (.Z (n:Int))) (some (.Z ((n+1:Nat):Int)))=some (.str (jG n)):=by
   rw[Wg .i64 .i64 Zo (by simp;omega),aAp n a]
  refine et @cF @bF @cn ⟨?_⟩
  exact⟨rfl,rfl,rfl⟩
 ·have cF:decide ((n:Int)<10)=false:=by simp only[Zb];omega
  have bF:bq .mul (.Z (n:Int)) (.Z 2)=some (.Z ((n*2:Nat):Int)):=by rw[afn Zo Zo];rfl
  have cn:bq .add (.Z ((n*2:Nat):Int)) (.Z 2)=some (.Z ((n*2+2:Nat):Int)):=by rw[eJ Zo Zo];rfl
  have eU:nf (.str Qu) (some (.Z ((n*2:Nat):Int))) (some (.Z ((n*2+2:Nat):Int)))=some (.str (jG n)):=by
   rw[Wg .i64 .i64 Zo (zq aAr),aAq n aE Zo]
  unfold Qu at eU
  refine gx @cF @bF @cn @eU ⟨?_⟩
  exact⟨rfl,rfl,rfl⟩
def azZ(aw:du X)(t:de)(aE:(o X).a2<=j):aY X 204 [.agg (ed t)] h j (λac T an=>ac= .str (nJ t)/\bo X h j T an) (λ_ _ _=>False):=by
 refine zx aw (akY X) ?_
 rw[akZ]
 unfold ε
 have a6:ed t=[.bool t.b, .bool t.s, .Z t.w]:=rfl
 rw[a6]
 refine cK ⟨?_⟩
 refine fh (λaP=>Y X aP j=zu [.bool t.b, .bool t.s, .Z t.w] 3/\bo X h j aP (j+1)) ⟨bg aE,dM⟩ ?_
 rintro aP ⟨b3,bN⟩
 refine(Fk aw t Zo).Zm ?_
 rintro ac aM a1 ⟨rfl,bJ⟩
 have f7:=bJ.le
 have bT:=bN.trans bJ
 have b7:Y X aM j=zu [.bool t.b, .bool t.s, .Z t.w] 3:=by rw[bJ.ab _ Zo];exact b3
 have d3:aO X aM (.ptr j 0)=some (.bool t.b):=by rw[bO b7];rfl
 have db:aO X aM (.ptr j 1)=some (.bool t.s):=by rw[bO b7];rfl
 have dx:aO X aM (.ptr j 2)=some (.Z t.w):=by rw[bO b7];rfl
 cases bp:gR t with
 |false=>
  refine cK ⟨?_⟩
  exact⟨by simp[nJ,bp],bT⟩
 |true=>
  cases m1:t.b with
  |true=>
   rw[m1]at d3
   refine ci @d3 ⟨?_⟩
   exact⟨by simp[nJ,bp,m1],bT⟩
  |false=>
   rw[m1]at d3
   have bt:1<=t.w/\t.w<=64:=by simpa[gR,m1]using bp
   obtain⟨w,Ba⟩:=Yn (by omega:0<=t.w)
   rw[Ba]at dx
   have aN:jG t.w.toNat=jG w:=by rw[Ba];rfl
   have fI:(jG w).length<=2:=by unfold jG;split<;>simp
   have un:∀h c,dw X h .add 9 true (.str [c]) (.str (jG w))=some (.str (c::jG w)):=λh c=>by
    have:Nat.ble ([c].length+(jG w).length) 1000000000=true:=ll (by simp;omega)
    simp only[dw,B4,this,eX];rfl
   cases jn:t.s with
   |true=>
    rw[jn]at db
    refine et @d3 @db @dx ⟨?_⟩
    refine(Pu aw Zo).Zm ?_
    rintro ac aX bf ⟨rfl,rfl,rfl⟩
    refine ci @un ⟨?_⟩
    exact⟨by simp[nJ,bp,m1,jn,aN],bT⟩
   |false=>
    rw[jn]at db
    refine et @d3 @db @dx ⟨?_⟩
    refine(Pu aw Zo).Zm ?_
    rintro ac aX bf ⟨rfl,rfl,rfl⟩
    refine ci @un ⟨?_⟩
    exact⟨by simp[nJ,bp,m1,jn,aN],bT⟩
end
def Ly{n:Nat}(a:n<100):jG n≠[]/\(jG n).length<19/\(∀c∈jG n,iS c=true)/\yX (jG n)=n:=by
 unfold jG
 split
 ·refine⟨Zs,Zs, ?_, ?_⟩
  ·intro c aA;simp at aA;subst aA;simp[iS];omega
  ·simp[yX]
 ·refine⟨Zs,Zs, ?_, ?_⟩
  ·intro c aA;simp at aA;rcases aA with rfl|rfl<;>simp[iS]<;>omega
  ·simp[yX];omega
def QC(c:Nat)(k:bi):lD (c::k)=if c::k=[98,111,111,108]then some ⟨true,false,1⟩
 else if c=105\/c=117 then((List.range 65).find? λn=>decide (1<=n)&&decide (jG n=k)).map λn:Nat=>⟨false,decide (c=105),(n:Int)⟩
 else none:=rfl
def Mt{c:Nat}{k:bi}{t:de}(a:lD (c::k)=some t)(aj:c::k≠[98,111,111,108]):(c=105\/c=117)/\∃n:Nat,1<=n/\n<=64/\jG n=k/\t=⟨false,decide (c=105),(n:Int)⟩:=by
 rw[QC]at a
 rw[Zg aj]at a
 split at a
 ·rename_i aA
  refine⟨aA, ?_⟩
  simp only[Yp]at a
  obtain⟨n,I,J⟩:=a
  have am:=List.find?_some I
  have aB:=List.mem_of_find?_eq_some I
  simp at am aB
  exact⟨n,am.1,Zo,am.2,J.symm⟩
 ·cases a
def ah1{c:Nat}{k:bi}(a:lD (c::k)=none)(aA:c=105\/c=117){n:Nat}(I:1<=n)(J:n<=64):jG n≠k:=by
 intro aE
 rw[QC]at a
 split at a
 ·cases a
 ·first
  |rw[Zu aA]at a
  |skip
  simp at a
  exact a n Zo I aE
def bo.set{C:aL}{h aP:K ag}{j aG b aU:Nat}{cY:Option ag}(a:bo C h j aP aG)(aj:j<=b)(aS:C.a2<=j)(aE:aG<=aU):bo C h j (bn C aP b cY) aU:=
 ⟨ZB a.le aE,λe z=>by rw[aI Zo Zo];exact a.ab e z⟩
section
variable{X:cb}{h T aP aM:K ag}{j an aG a1 gc:Nat}{s:bi}{i:Nat}
def ah0(aw:iI X)(bT:lV X)(aF:s.length<=65536)(aj:∀c∈s,c<256)(uS:DM s)(aE:(o X).a2<=j):
 aY X 169 [.str s] h j (λac T an=>ac= .tuple [.agg (ed ((lD s).getD dH)), .bool (lD s).isSome]/\bo X h j T an) (λ_ _ _=>False):=by
 refine zx aw.todu (aka X) ?_
 rw[akb]
 unfold XJ
 by_cases yg:s=[98,111,111,108]
 ·have d:decide (s=[98,111,111,108])=true:=by simp[yg]
  refine ci @d ⟨?_⟩
  exact⟨by subst yg;rfl,dM⟩
 have d:decide (s=[98,111,111,108])=false:=by simp[yg]
 cases s with
 |nil=>
  have cF:decide (([]:List Nat)=[])=true:=rfl
  refine cT @d @cF ⟨?_⟩
  exact⟨rfl,dM⟩
 |cons c k=>
  have cF:decide (c::k=[])=false:=by simp
  have dS:n9 (.str (c::k)) (.Z 0)=some (.int .u8 (c:Int)):=CX (i:=0) .i64 rfl
  by_cases aA:c=105\/c=117
  ·have jF:nf (.str (c::k)) (some (.Z 1)) none=some (.str k):=Qs (k:=1) .i64 Zs
   have fI:k.length<=65536:=by simp at aF;omega
   have wd:∀c∈k,c<256:=λx af=>aj x (Zt _ af)
   have aty:DM k:=λx af=>uS x (Zt _ af)
   have eS:∃bQ cf,decide ((c:Int)≠117)=bQ/\decide ((c:Int)≠105)=cf/\(bQ=false\/bQ=true/\cf=false):=by
    rcases aA with rfl|rfl
    ·exact⟨true,false,rfl,rfl, .inr ⟨rfl,rfl⟩⟩
    ·exact⟨false,true,rfl,rfl, .inl rfl⟩
   obtain⟨bQ,cf,eS,iK,ti⟩:=eS
   have ga:decide ((c:Int)=105)=decide (c=105):=by simp;omega
   rcases ti with rfl|⟨rfl,rfl⟩
   all_goals
    refine iM @d @cF @dS @eS @iK @jF ⟨?_⟩
    refine fh (λaP=>Y X aP j=zu [.zF, .zF, .Z 0] 3/\bo X h j aP (j+1)) ⟨bg aE,dM⟩ ?_
    rintro aP ⟨b3,bN⟩
    refine(abh aw bT fI wd aty Zo).Zm ?_
    rintro ac aM a1 ⟨⟨bz,E,rfl,bs,af⟩,bJ⟩
    have f7:=bJ.le
    have b7:Y X aM j=zu [.zF, .zF, .Z 0] 3:=by rw[bJ.ab _ Zo];exact b3
    have jk:=bN.trans bJ
    refine cT @dS @ga ⟨?_⟩
    generalize e9:bn X _ a1 _=aX
    have cS:Y X aX j=zu [.zF, .zF, .Z 0] 3:=by rw[<-e9];simp(disch:=omega) only[aI];exact b7
    have eh:Y X aX a1=zu [.zF, .bool (decide (c=105)), .Z bz] 3:=by rw[<-e9];rw[bg Zo];rfl
    have cg:bo X h j aX (a1+1):=jk.trans (by rw[<-e9];exact dM)
    clear e9
    rcases bs with rfl|⟨b,rfl⟩
    ·refine cT @Fp (bO eh) ⟨?_⟩
     refine(Fk (j:=a1+1) (h:=aX) aw.todu ⟨false,decide (c=105),bz⟩ (ZB aE cg.le)).Zm ?_
     rintro ac bC da ⟨rfl,dv⟩
     have jC:=dv.le
     have fS:Y X bC j=zu [.zF, .zF, .Z 0] 3:=by rw[dv.ab _ Zo];exact cS
     have dT:Y X bC a1=zu [.zF, .bool (decide (c=105)), .Z bz] 3:=by rw[dv.ab _ Zo];exact eh
     cases bp:gR ⟨false,decide (c=105),bz⟩with
     |false=>
      have a6:lD (c::k)=none:=by
       cases a6:lD (c::k)with
       |none=>rfl
       |some t=>
        obtain⟨_,n,I,J,am,rfl⟩:=Mt a6 yg
        obtain⟨cG,cw,d9,fQ⟩:=Ly (by omega:n<100)
        rw[am]at cG cw d9 fQ
        have:=(af cG cw d9).2
        rw[fQ]at this
        subst this
        simp[gR]at bp
        omega
      rw[a6]
      refine ci (bO fS) ⟨?_⟩
      exact⟨rfl,bo.set (cg.trans dv) Zo aE Zo⟩
     |true=>
      have cr:1<=bz/\bz<=64:=by simpa[gR]using bp
      obtain⟨n,rfl⟩:=Yn (by omega:0<=bz)
      refine ci (bO dT) ⟨?_⟩
      refine(azZ (j:=da) (h:=bC) aw.todu ⟨false,decide (c=105),(n:Int)⟩ Zo).Zm ?_
      rintro ac bW b4 ⟨rfl,dJ⟩
      have ib:=dJ.le
      have eY:Y X bW j=zu [.zF, .zF, .Z 0] 3:=by rw[dJ.ab _ Zo];exact fS
      have h7:Y X bW a1=zu [.zF, .bool (decide (c=105)), .Z (n:Int)] 3:=by rw[dJ.ab _ Zo];exact dT
      have E0:nJ ⟨false,decide (c=105),(n:Int)⟩=c::jG n:=by
       rcases aA with rfl|rfl<;>simp[nJ,bp]<;>simp_all
      have Kn:=(cg.trans dv).trans dJ
      by_cases az:jG n=k
      ·have a6:lD (c::k)=some ⟨false,decide (c=105),(n:Int)⟩:=by
        cases a6:lD (c::k)with
        |none=>exact absurd az (ah1 a6 aA Zo Zo)
        |some t=>
         obtain⟨_,aU,I,J,am,rfl⟩:=Mt a6 yg
         obtain⟨cG,cw,d9,fQ⟩:=Ly (by omega:n<100)
         obtain⟨_,_,_,mH⟩:=Ly (by omega:aU<100)
         rw[am, <-az,fQ]at mH
         rw[mH]
       have jg:decide (nJ ⟨false,decide (c=105),(n:Int)⟩≠c::k)=false:=by rw[E0,az];simp
       rw[a6]
       refine cT @jg (bO h7) ⟨?_⟩
       refine⟨rfl,bo.set Kn Zo aE Zo⟩
      ·have a6:lD (c::k)=none:=by
        cases a6:lD (c::k)with
        |none=>rfl
        |some t=>
         obtain⟨_,aU,I,J,am,rfl⟩:=Mt a6 yg
         obtain⟨cG,cw,d9,fQ⟩:=Ly (by omega:aU<100)
         rw[am]at cG cw d9 fQ
         have:=(af cG cw d9).2
         rw[fQ]at this
         have:n=aU:=Zo
         subst this
         exact absurd am az
       have jg:decide (nJ ⟨false,decide (c=105),(n:Int)⟩≠c::k)=true:=by rw[E0];simp[az]
       rw[a6]
       refine ci @jg ⟨?_⟩
       exact⟨rfl,bo.set Kn Zo aE Zo⟩
    ·have a6:lD (c::k)=none:=by
      cases a6:lD (c::k)with
      |none=>rfl
      |some t=>
       obtain⟨_,n,I,J,am,rfl⟩:=Mt a6 yg
       obtain⟨cG,cw,d9,fQ⟩:=Ly (by omega:n<100)
       rw[am]at cG cw d9 fQ
       exact absurd (af cG cw d9).1 Zs
     rw[a6]
     refine ci @agr ⟨?_⟩
     exact⟨rfl,bo.set cg Zo aE Zo⟩
  ·have eS:decide ((c:Int)≠117)=true:=by simp only[Zh];omega
   have iK:decide ((c:Int)≠105)=true:=by simp only[Zh];omega
   refine gg @d @cF @dS @eS @iK ⟨?_⟩
   have a6:lD (c::k)=none:=by rw[QC];rw[Zg yg,Zg aA]
   rw[a6]
   exact⟨rfl,dM⟩
end
def Di(w:Int):Int:=(18446744073709551615:Int).fdiv (2^(min (64-w).toNat 64))
def Gu(x e:Int):Int:=p9 .u64 ((BitVec.ofInt 64 x&&& ~~~ BitVec.ofInt 64 e).toNat)
def Bc(t:de)(n:Int):Bool:=gR t&&decide (Gu n (Di t.w)=0)
def uR(t:de)(n:Int):Bool:=if t.s then(if t.w-1=0 then decide (n=0)else Bc ⟨false,false,t.w-1⟩ n)else Bc t n
def wU:List bi:=[[110,111,100,101],[114,101,116,117,114,110,115],[118,97,114],[108,101,116],[116,101,108],[119,104,101,110],[110,111,116],[112,114,101],[102,98,121],[109,101,114,103,101],
 [105,102],[116,104,101,110],[101,108,115,101],[97,110,100],[111,114],[120,111,114],[116,114,117,101],[102,97,108,115,101]]
structure MV(X:cb):Prop where
 at_:∃v,∀h,aO X h (.ptr 3 0)=some v/\∀s:bi,lO X h 9 .zF v (.str s) false=some (.bool (decide (s∈wU)))
section
variable{X:cb}{h T aP aM:K ag}{j an aG a1 gc:Nat}{s:bi}{i:Nat}
def azo(aw:du X)(eN:MV X)(s:bi):aY X 171 [.str s] h j (λac T an=>ac= .bool (decide (s∈wU))/\T=h/\an=j) (λ_ _ _=>False):=by
 refine zx aw (ake X) ?_
 rw[akf]
 unfold XL
 obtain⟨v,bD⟩:=eN.at_
 obtain⟨I,J⟩:=bD h
 have am:=J s
 refine cT @I @am ⟨?_⟩
 exact⟨rfl,rfl,rfl⟩
def ayd(aw:du X)(t:de)(a6:1<=t.w/\t.w<=64)(aE:(o X).a2<=j):aY X 231 [.agg (ed t)] h j (λac T an=>ac= .int .u64 (Di t.w)/\bo X h j T an) (λ_ _ _=>False):=by
 refine zx aw (alz X) ?_
 rw[alA]
 unfold ψ ed
 have bF:bq .sub (.Z 64) (.Z t.w)=some (.Z (64-t.w)):=CS Zo Zo
 have cn:bq .shr (.int .u64 18446744073709551615) (.Z (64-t.w))=some (.int .u64 (Di t.w)):=by
  have:decide ((64-t.w)<0)=false:=by simp only[Zb];omega
  simp only[bq,mg,eX,JE,tF,this,j3,qD,GY]
  rfl
 refine cT @bF @cn ⟨?_⟩
 exact⟨rfl,dM⟩
def PM{t:de}(a:gR t=true):1<=t.w/\t.w<=64:=by
 unfold gR at a
 split at a<;>simp at a<;>omega
def afu(aw:du X)(t:de)(n:Int)(aE:(o X).a2<=j):aY X 205 [.agg (ed t), .int .u64 n] h j (λac T an=>ac= .bool (Bc t n)/\bo X h j T an) (λ_ _ _=>False):=by
 refine zx aw (ak0 X) ?_
 rw[ak1]
 unfold ζ
 have a6:ed t=[.bool t.b, .bool t.s, .Z t.w]:=rfl
 rw[a6]
 refine cK ⟨?_⟩
 refine fh (λaP=>Y X aP j=zu [.bool t.b, .bool t.s, .Z t.w] 3/\bo X h j aP (j+1)) ⟨bg aE,dM⟩ ?_
 rintro aP ⟨b3,bN⟩
 refine(Fk aw t Zo).Zm ?_
 rintro ac aM a1 ⟨rfl,bJ⟩
 have f7:=bJ.le
 have bT:=bN.trans bJ
 have b7:Y X aM j=zu [.bool t.b, .bool t.s, .Z t.w] 3:=by rw[bJ.ab _ Zo];exact b3
 cases bp:gR t with
 |false=>
  refine cK ⟨?_⟩
  exact⟨by simp[Bc,bp],bT⟩
 |true=>
  refine ci (bO b7) ⟨?_⟩
  refine(ayd (j:=a1) (h:=aM) aw t (PM bp) Zo).Zm ?_
  rintro ac aX bf ⟨rfl,cg⟩
  have bF:bq .andNot (.int .u64 n) (.int .u64 (Di t.w))=some (.int .u64 (Gu n (Di t.w))):=by
   simp only[bq,mg,j3,mD,eX,lZ,lw,GY];rfl
  refine ci @bF ⟨?_⟩
  exact⟨by simp[Bc,bp],bT.trans cg⟩
def atV(aw:du X)(t:de)(a6:gR t=true)(n:Int)(aE:(o X).a2<=j):aY X 170 [.agg (ed t), .int .u64 n] h j (λac T an=>ac= .bool (uR t n)/\bo X h j T an) (λ_ _ _=>False):=by
 refine zx aw (akc X) ?_
 rw[akd]
 unfold XK
 have bt:=PM a6
 have gH:ed t=[.bool t.b, .bool t.s, .Z t.w]:=rfl
 rw[gH]
 have bF:bq .sub (.Z t.w) (.Z 1)=some (.Z (t.w-1)):=CS Zo Zo
 cases jn:t.s with
 |false=>
  refine cK ⟨?_⟩
  refine fh (λaP=>bo X h j aP (j+1)) dM ?_
  intro aP bN
  have:=afu (j:=j+1) (h:=aP) aw t n Zo
  rw[gH,jn]at this
  refine this.Zm ?_
  rintro ac aM a1 ⟨rfl,bJ⟩
  refine cK ⟨?_⟩
  exact⟨by simp[uR,jn],bN.trans bJ⟩
 |true=>
  by_cases aS:t.w-1=0
  ·have d:decide (t.w-1=0)=true:=by simp[aS]
   refine cT @bF @d ⟨?_⟩
   refine fw (hF (q:=3) (b:=j) (U:=0) (n:=3) (c:=K.ofList [.bool t.b, .zT, .Z t.w] 0 .nil) (bg aE) Zo rfl Zd Zd rfl) ?_
   refine ci @d ⟨?_⟩
   exact⟨by simp[uR,jn,aS],dM⟩
  ·have d:decide (t.w-1=0)=false:=by simp[aS]
   refine cT @bF @d ⟨?_⟩
   refine fw (hF (q:=3) (b:=j) (U:=0) (n:=3) (c:=K.ofList [.bool t.b, .zT, .Z t.w] 0 .nil) (bg aE) Zo rfl Zd Zd rfl) ?_
   refine ci @d ⟨?_⟩
   refine fh (λaP=>bo X h j aP (j+1)) dM ?_
   intro aP bN
   refine(afu (j:=j+1) (h:=aP) aw ⟨false,false,t.w-1⟩ n Zo).Zm ?_
   rintro ac aM a1 ⟨rfl,bJ⟩
   refine cK ⟨?_⟩
   exact⟨by simp[uR,jn,aS],bN.trans bJ⟩
end
def u4(s:bi)(i:Nat):Tok×Bool:=
 let w:=(s.drop i).takeWhile ja
 (⟨if (lD w).isSome then 3 else if w∈wU then 2 else 1,w,0,0,(lD w).getD dH⟩,decide (w.length<=32))
def agB{k:bi}(a:∀c∈k,ja c=true):DM k:=by
 intro c aA
 have:=a c aA
 simp[ja,rs,iS]at this
 omega
def ahT{α:Type}(p:α->Bool):∀k:List α,∀c∈k.takeWhile p,p c=true:=by
 intro k
 induction k with
 |nil=>simp
 |cons F k al=>
  intro c aA
  rw[YG]at aA
  split at aA
  ·rcases Zr.1 aA with rfl|aA
   ·assumption
   ·exact al c aA
  ·simp at aA
section
variable{X:cb}{h T aP aM:K ag}{j an aG a1 gc:Nat}{s:bi}{i:Nat}
def Vz(V:nn X h gc s i)(aj:∀c∈s,c<256)(W:Nat)(p:Nat->Bool)(ay:∀c,p c=true->ja c=true):((s.drop W).takeWhile p).length<=65536/\(∀c∈(s.drop W).takeWhile p,c<256)/\DM ((s.drop W).takeWhile p):=by
 have I:=FV p (s.drop W)
 rw[YD]at I
 have:=V.many
 refine⟨Zo,λc aA=>aj c (Y6 ((List.takeWhile_sublist p).subset aA)),agB λc aA=>ay c (ahT p _ c aA)⟩
def aB3(aw:iI X)(bT:lV X)(eN:MV X)(V:nn X h gc s i)(aj:∀c∈s,c<256)(aE:(o X).a2<=j)(Le:gc<j):
 aY X 115 [.ptr gc 0] h j (λac T an=>ac= .tuple [.agg (cd (u4 s i).1), .bool (u4 s i).2]/\bo X h j T an) (λ_ _ _=>False):=by
 refine zx aw.todu (ai8 X) ?_
 rw[ai9]
 unfold Xe
 have db:=V.db
 have h9:=V.bM
 obtain⟨cG,cw,d9⟩:=Vz V aj i ja (λ_ a=>a)
 have tv:∀cY,nn X (bn X h j cY) gc s i:=λcY=>V.ab (aI aE Zo)
 refine ci @db ⟨?_⟩
 refine(Ql aw.todu (ahv aw.todu) (tv _) V.le).Zm ?_
 rintro ac aM a1 ⟨rfl,rfl,rfl⟩
 unfold u4
 generalize (s.drop i).takeWhile ja=w at*
 simp only[]
 refine cK ⟨?_⟩
 refine fh (λaP=>Y X aP j=zu [.Z 0, .str [], .Z 0, .int .u64 0, .zF, .zF, .Z 0] 7/\Y X aP (j+1)=zu [.Z 1, .str w, .Z 0, .int .u64 0, .zF, .zF, .Z 0] 7/\bo X h j aP (j+1+1)) ⟨by simp(disch:=omega) only[aI,bg]<;>rfl,by rw[bg Zo];rfl,dM⟩ ?_
 rintro aP ⟨b3,b7,bN⟩
 refine(ah0 aw bT cG cw d9 Zo).Zm ?_
 rintro ac aX bf ⟨rfl,cg⟩
 have ip:=cg.le
 have tg:=bN.trans cg
 have cS:Y X aX j=zu [.Z 0, .str [], .Z 0, .int .u64 0, .zF, .zF, .Z 0] 7:=by rw[cg.ab _ Zo];exact b3
 have eh:Y X aX (j+1)=zu [.Z 1, .str w, .Z 0, .int .u64 0, .zF, .zF, .Z 0] 7:=by rw[cg.ab _ Zo];exact b7
 generalize a6:(lD w).getD dH=t
 have HO:ed t=[.bool t.b, .bool t.s, .Z t.w]:=rfl
 rw[HO]
 have Ao:decide ((w.length:Int)<=32)=decide (w.length<=32):=by simp;omega
 have fin:∀(b9:K ag) (eB:Nat) (q:Int) (ha:de) (s7:K D),bf<=eB->bo X h j b9 eB->Y X b9 (j+1)=some (.cells s7 7 .own)->Y X b9 j=zu [.Z 0, .str [], .Z 0, .int .u64 0, .zF, .zF, .Z 0] 7->
  s7.get 0=some (.Z q)->s7.get 1=some (.str w)->s7.get 2=some (.Z 0)->s7.get 3=some (.int .u64 0)->s7.get 4=some (.bool ha.b)->s7.get 5=some (.bool ha.s)->s7.get 6=some (.Z ha.w)->
  ax (d8 X b9 7 (.ptr (j+1) 0)) λaBD=>ax (m8 (.str w)) λaBE=>ax (bq .leq aBE (.Z 32)) λaBF=>ax (gj X b9 7 (.ptr j 0) aBD) λaaM=>ax (d8 X aaM 7 (.ptr j 0)) λv37=>
   D.tuple [v37,aBF]= .tuple [.agg (cd ⟨q,w,0,0,ha⟩), .bool (decide (w.length<=32))]/\bo X h j aaM eB:=by
  intro b9 eB q ha s7 aDv eG dT eY sn bR cq cP d0 dU dy
  have fT:=kf dT sn;have ei:=kf dT bR;have c4:=kf dT cq;have fa:=kf dT cP;have g6:=kf dT d0;have gJ:=kf dT dU;have m7:=kf dT dy
  refine eF @fT @ei @c4 @fa @g6 @gJ (Za @m7 @Ao) ⟨?_⟩
  exact⟨rfl,bo.set eG (Zi _) aE (Zi _)⟩
 cases to:(lD w).isSome with
 |true=>
  refine h8 ⟨?_⟩
  refine h8 ⟨?_⟩
  refine h8 ⟨?_⟩
  refine h8 ⟨?_⟩
  refine h8 ⟨?_⟩
  generalize eH:bn X _ bf _=bC
  have fS:Y X bC bf=zu [.bool t.b, .bool t.s, .Z t.w] 3:=by rw[<-eH,bg Zo];rfl
  have dT:Y X bC j=zu [.Z 0, .str [], .Z 0, .int .u64 0, .zF, .zF, .Z 0] 7:=by rw[<-eH];simp(disch:=omega) only[aI];exact cS
  have eY:Y X bC (j+1)=zu [.Z 1, .str w, .Z 0, .int .u64 0, .zF, .zF, .Z 0] 7:=by rw[<-eH];simp(disch:=omega) only[aI];exact eh
  have dv:bo X h j bC (bf+1):=tg.trans (by rw[<-eH];exact dM)
  clear eH cS eh
  refine ci (bO fS) ⟨?_⟩
  refine g2 (by simp[D.same,o3,qM]) ?_
  generalize lr:bn X bC (j+1) _=bW
  have bk:∀e,e≠j+1->Y X bW e=Y X bC e:=λe z=>by rw[<-lr,aI Zo z]
  have h7:Y X bW (j+1)=some (.cells (dN (K.ofList [.Z 1, .str w, .Z 0, .int .u64 0, .zF, .zF, .Z 0] 0 .nil) 0 [.Z 3]) 7 .own):=by rw[<-lr,bg Zo];rfl
  rw[<-bk _ Zo]at fS dT
  have dJ:bo X h j bW (bf+1):=⟨dv.le,λe z=>by rw[bk e Zo];exact dv.ab e z⟩
  clear lr bk eY
  refine fw (hF (q:=3) (b:=j+1) (U:=4) (n:=7) h7 Zo rfl Zd Zd rfl) ?_
  generalize fB:bn X bW (j+1) _=b9
  have b6:∀e,e≠j+1->Y X b9 e=Y X bW e:=λe z=>by rw[<-fB,aI Zo z]
  have mW:Y X b9 (j+1)=some (.cells (dN (dN (K.ofList [.Z 1, .str w, .Z 0, .int .u64 0, .zF, .zF, .Z 0] 0 .nil) 0 [.Z 3]) 4 [.bool t.b, .bool t.s, .Z t.w]) 7 .own):=by rw[<-fB,bg Zo];rfl
  rw[<-b6 _ Zo]at dT
  have eG:bo X h j b9 (bf+1+5):=⟨zq dJ.le,λe z=>by rw[b6 e Zo];exact dJ.ab e z⟩
  clear fB b6 h7
  have:=fin b9 (bf+1+5) 3 t _ Zo eG mW dT rfl rfl rfl rfl rfl rfl rfl
  simp only[ZC]
  refine h8 ⟨?_⟩
  exact this
 |false=>
  have UF:t=dH:=by
   rw[<-a6]
   cases bL:lD w with
   |none=>rfl
   |some t=>rw[bL]at to;cases to
  refine cK ⟨?_⟩
  refine fh (λbC=>bo X aX bf bC (bf+1)) dM ?_
  intro bC dv
  have AI:=tg.trans dv
  have dT:Y X bC j=zu [.Z 0, .str [], .Z 0, .int .u64 0, .zF, .zF, .Z 0] 7:=by rw[dv.ab _ Zo];exact cS
  have eY:Y X bC (j+1)=zu [.Z 1, .str w, .Z 0, .int .u64 0, .zF, .zF, .Z 0] 7:=by rw[dv.ab _ Zo];exact eh
  refine(azo (j:=bf+1) (h:=bC) aw.todu eN w).Zm ?_
  rintro ac bW b4 ⟨rfl,rfl,rfl⟩
  subst UF
  simp only[Zw,ZA]
  by_cases me:w∈wU
  ·simp only[me,Ys,ZC]
   refine h8 ⟨?_⟩
   refine h8 ⟨?_⟩
   refine h8 ⟨?_⟩
   refine fw (hF (q:=1) (b:=j+1) (U:=0) (n:=7) eY Zo rfl Zd Zd rfl) ?_
   generalize fB:bn X _ (j+1) _=b9
   have b6:∀e,e≠j+1->Y X b9 e=Y X bW e:=λe z=>by rw[<-fB,aI Zo z]
   have mW:Y X b9 (j+1)=some (.cells (dN (K.ofList [.Z 1, .str w, .Z 0, .int .u64 0, .zF, .zF, .Z 0] 0 .nil) 0 [.Z 2]) 7 .own):=by rw[<-fB,bg Zo];rfl
   rw[<-b6 _ Zo]at dT
   have eG:bo X h j b9 (bf+1):=⟨AI.le,λe z=>by rw[b6 e Zo];exact AI.ab e z⟩
   have:=fin b9 (bf+1) 2 dH _ Zo eG mW dT rfl rfl rfl rfl rfl rfl rfl
   refine h8 ⟨?_⟩
   exact this
  ·simp only[me,Yd,ZA]
   have:=fin bW (bf+1) 1 dH _ Zo AI eY dT rfl rfl rfl rfl rfl rfl rfl
   refine h8 ⟨?_⟩
   refine h8 ⟨?_⟩
   refine h8 ⟨?_⟩
   exact this
end
def Fu(s:bi)(i:Nat):Option Tok:=
 let d:=(s.drop i).takeWhile iS
 if (kM d).2≠0\/20<d.length then none
 else
  let Wa:=(s.drop (i+d.length)).takeWhile ja
  if Wa=[]then some ⟨4,d,0,(kM d).1,dH⟩
  else match lD Wa with
   |some t=>if !t.b&&uR t (kM d).1 then some ⟨5,d++Wa,0,(kM d).1,t⟩else none
   |none=>none
def Wy:∀{w:bi}{t:de},lD w=some t->gR t=true:=by
 intro w t a
 cases w with
 |nil=>cases a
 |cons c k=>
  by_cases aj:c::k=[98,111,111,108]
  ·rw[QC,Zu aj]at a
   cases a
   rfl
  ·obtain⟨_,n,I,J,_,rfl⟩:=Mt a aj
   simp[gR];omega
section
variable{X:cb}{h T aP aM:K ag}{j an aG a1 gc:Nat}{s:bi}{i:Nat}
def axV(aw:iI X)(bT:lV X)(V:nn X h gc s i)(aj:∀c∈s,c<256)(aE:(o X).a2<=j)(Le:gc<j):
 aY X 113 [.ptr gc 0] h j (λac T an=>(∃q,ac= .tuple [.agg (cd q), .bool (Fu s i).isSome]/\∀x,Fu s i=some x->q=x)/\bo X h j T an) (λ_ _ _=>False):=by
 refine zx aw.todu (ai4 X) ?_
 rw[ai5]
 unfold Xc
 have db:=V.db
 have h9:=V.bM
 have lK:=V.le
 have aDQ:=V.many
 obtain⟨cG,cw,d9⟩:=Vz V aj i iS (λc a=>by simp[ja,a])
 have ml:=FV iS (s.drop i)
 rw[YD]at ml
 have tv:∀cY,nn X (bn X h j cY) gc s i:=λcY=>V.ab (aI aE Zo)
 refine ci @db ⟨?_⟩
 refine(Ql aw.todu (azC aw.todu) (tv _) V.le).Zm ?_
 rintro ac aM a1 ⟨rfl,rfl,rfl⟩
 generalize i2:Fu s i=N
 unfold Fu at i2
 simp only[]at i2
 generalize (s.drop i).takeWhile iS=d at*
 refine cK ⟨?_⟩
 refine fh (λaP=>Y X aP j=zu [.Z 0, .str [], .Z 0, .int .u64 0, .zF, .zF, .Z 0] 7/\bo X h j aP (j+1)) ⟨by simp(disch:=omega) only[aI,bg]<;>rfl,dM⟩ ?_
 rintro aP ⟨b3,bN⟩
 refine(ayx aw bT cG cw Zo).Zm ?_
 rintro ac aX bf ⟨⟨E,rfl,bs⟩,cg⟩
 have ip:=cg.le
 have tg:=bN.trans cg
 have cS:Y X aX j=zu [.Z 0, .str [], .Z 0, .int .u64 0, .zF, .zF, .Z 0] 7:=by rw[cg.ab _ Zo];exact b3
 have A3:=V.ab (tg.ab gc Le)
 have aEv:D.agg [.Z 0, .str [], .Z 0, .int .u64 0, .zF, .zF, .Z 0]= .agg (cd hc):=rfl
 rcases bs with ⟨aS,rfl⟩|⟨aS,b,rfl⟩
 ·by_cases fI:20<d.length
  ·rw[Zu (.inr fI)]at i2
   subst i2
   have cX:decide ((20:Int)<(d.length:Int))=true:=by simp only[Zh];omega
   refine cT @Fp @cX ⟨?_⟩
   exact⟨⟨hc,rfl,λx a=>by cases a⟩,bo.set tg Zo aE Zo⟩
  have cX:decide ((20:Int)<(d.length:Int))=false:=by simp only[Zb];omega
  rw[Zg (by rintro(a|a);exact a aS;exact fI a)]at i2
  have gf:=A3.db
  have bF:bq .add (.Z (i:Int)) (.Z (d.length:Int))=some (.Z ((i+d.length:Nat):Int)):=by rw[eJ Zo Zo];rfl
  refine gx @Fp @cX @gf @bF ⟨?_⟩
  refine(Ql aw.todu (ahv aw.todu) A3 Zo).Zm ?_
  rintro ac bC da ⟨rfl,rfl,rfl⟩
  obtain⟨fG,hD,yK⟩:=Vz A3 aj (i+d.length) ja (λ_ a=>a)
  generalize (s.drop (i+d.length)).takeWhile ja=w at*
  by_cases bt:w=[]
  ·have cF:decide (w=[])=true:=by simp[bt]
   rw[Zu bt]at i2
   subst i2
   refine ci @cF ⟨?_⟩
   exact⟨⟨⟨4,d,0,(kM d).1,dH⟩,rfl,λx a=>by cases a;rfl⟩,bo.set tg Zo aE Zo⟩
  have cF:decide (w=[])=false:=by simp[bt]
  rw[Zg bt]at i2
  refine ci @cF ⟨?_⟩
  refine(ah0 aw bT fG hD yK Zo).Zm ?_
  rintro ac bW b4 ⟨rfl,dJ⟩
  have ib:=dJ.le
  have fS:Y X bW j=zu [.Z 0, .str [], .Z 0, .int .u64 0, .zF, .zF, .Z 0] 7:=by rw[dJ.ab _ Zo];exact cS
  have Ev:=tg.trans dJ
  generalize a6:(lD w).getD dH=t
  have HO:ed t=[.bool t.b, .bool t.s, .Z t.w]:=rfl
  rw[HO]
  refine h8 ⟨?_⟩
  refine h8 ⟨?_⟩
  refine h8 ⟨?_⟩
  refine h8 ⟨?_⟩
  refine h8 ⟨?_⟩
  generalize fB:bn X _ b4 _=b9
  have dT:Y X b9 b4=zu [.bool t.b, .bool t.s, .Z t.w] 3:=by rw[<-fB,bg Zo];rfl
  have eY:Y X b9 j=zu [.Z 0, .str [], .Z 0, .int .u64 0, .zF, .zF, .Z 0] 7:=by rw[<-fB];simp(disch:=omega) only[aI];exact fS
  have eG:bo X h j b9 (b4+1):=Ev.trans (by rw[<-fB];exact dM)
  clear fB fS cS b3
  have un:∀h,dw X h .add 9 false (.str d) (.str w)=some (.str (d++w)):=λh=>by
   have:Nat.ble (d.length+w.length) 1000000000=true:=ll Zo
   simp only[dw,B4,this,eX]
  have Wj:∀ak:Prop,ak->gT (.str (d++w)) (some (.str (d++w))) ak:=λak a=>g2 (by simp[D.same,Fo]) a
  have Mj:∀ak:Prop,ak->gT (.agg [.bool t.b, .bool t.s, .Z t.w]) (some (.agg [.bool t.b, .bool t.s, .Z t.w])) ak:=λak a=>g2 (by simp[D.same,o3,qM]) a
  have e3:cd ⟨5,d++w,0,(kM d).1,t⟩=[.Z 5, .str (d++w), .Z 0, .int .u64 (kM d).1, .bool t.b, .bool t.s, .Z t.w]:=rfl
  cases to:lD w with
  |none=>
   rw[to]at i2
   simp only[]at i2
   subst i2
   simp only[Z2]
   refine cT @un (bO dT) ⟨?_⟩
   refine Wj _ ?_
   refine cT @un (bO dT) ⟨?_⟩
   refine Mj _ ?_
   refine cK ⟨?_⟩
   refine⟨⟨⟨5,d++w,0,(kM d).1,t⟩, ?_,λx a=>by cases a⟩,bo.set eG Zo aE Zo⟩
   rw[e3]
  |some ha=>
   have Pl:ha=t:=by rw[to]at a6;exact a6
   subst Pl
   have atC:=Wy to
   rw[to]at i2
   simp only[]at i2
   cases m1:ha.b with
   |true=>
    rw[m1]at i2 dT e3 Mj
    simp only[Yk,Bool.false_and,Zw,ZA]at i2
    subst i2
    simp only[Z2,Z9]
    refine cT @un (bO dT) ⟨?_⟩
    refine Wj _ ?_
    refine cT @un (bO dT) ⟨?_⟩
    refine Mj _ ?_
    refine cK ⟨?_⟩
    refine⟨⟨⟨5,d++w,0,(kM d).1,ha⟩, ?_,λx a=>by cases a⟩,bo.set eG Zo aE Zo⟩
    rw[e3]
   |false=>
    rw[m1]at i2 dT e3 Mj
    simp only[Yj,Bool.true_and]at i2
    simp only[Z9]
    refine cT @un (bO dT) ⟨?_⟩
    have aA:=atV (j:=b4+1+19) (h:=b9) aw.todu ha atC ((kM d).1:Int) Zo
    have auW:ed ha=[.zF, .bool ha.s, .Z ha.w]:=by unfold ed;rw[m1]
    rw[auW]at aA
    refine aA.Zm ?_
    rintro ac cB ef ⟨rfl,eW⟩
    have n5:=eW.le
    have h7:Y X cB b4=zu [.zF, .bool ha.s, .Z ha.w] 3:=by rw[eW.ab _ Zo];exact dT
    have mW:Y X cB j=zu [.Z 0, .str [], .Z 0, .int .u64 0, .zF, .zF, .Z 0] 7:=by rw[eW.ab _ Zo];exact eY
    have Od:bo X h j cB ef:=⟨zq eG.le,λe z=>by rw[eW.ab e (zq eG.le)];exact eG.ab e z⟩
    have ar4:N.isSome=uR ha ((kM d).1:Int):=by
     rw[<-i2];cases uR ha ((kM d).1:Int)<;>rfl
    rw[ar4]
    refine ci @un ⟨?_⟩
    refine Wj _ ?_
    refine ci (bO h7) ⟨?_⟩
    refine Mj _ ?_
    refine cK ⟨?_⟩
    refine⟨⟨⟨5,d++w,0,(kM d).1,ha⟩, ?_,λx a=> ?_⟩,bo.set Od Zo aE Zo⟩
    ·rw[e3]
    ·rw[<-i2]at a
     split at a
     ·cases a;rfl
     ·cases a
 ·rw[Zu (.inl aS)]at i2
  subst i2
  refine ci @agr ⟨?_⟩
  exact⟨⟨hc,rfl,λx a=>by cases a⟩,bo.set tg Zo aE Zo⟩
end
def By:List bi:=[[45,62],[60,60],[62,62],[60,61],[62,61],[60,62],[40],[41],[44],[59],[58],[61],[60],[62],[43],[45],[42]]
structure Rf(X:cb):Prop where
 at_:∀h,d8 X h 17 (.ptr 1 0)=some (.agg (By.map D.str))
def KE(s p:bi):Bool:=decide (p.length<=s.length/\s.take p.length=p)
def wX(s:bi)(i:Nat):Option bi:=By.find? (KE (s.drop i))
def FL(p:bi):Tok:=⟨6,p,0,0,dH⟩
def acB{α:Type}(p:α->Bool):∀(k:List α) (W:Nat),(∀q<W,∀x,k[q]? =some x->p x=false)->k.find? p=(k.drop W).find? p:=by
 intro k W
 induction W with
 |zero=>intro _;rfl
 |succ W al=>
  intro a
  rw[al λq aD=>a q Zo]
  by_cases bK:W<k.length
  ·rw[Zv bK,zj]
   have:=a W Zo k[W] (Ze bK)
   rw[this]
  ·rw[ZH Zo,ZH Zo]
section
variable{X:cb}{h T aP aM:K ag}{j an aG a1 gc:Nat}{s:bi}{i:Nat}
def aAg(aw:iI X)(eN:Rf X)(V:nn X h gc s i)(aE:(o X).a2<=j)(Le:gc<j):
 aY X 111 [.ptr gc 0] h j (λac T an=>ac= .tuple [.agg (cd (match wX s i with|some p=>FL p|none=>hc)), .bool (wX s i).isSome]/\bo X h j T an) (λ_ _ _=>False):=by
 refine zx aw.todu (ai0 X) ?_
 rw[ai1]
 unfold Xa
 have h9:=V.bM
 have jF:nf (.str s) (some (.Z (i:Int))) none=some (.str (s.drop i)):=Qs .i64 V.le
 have bU:=eN.at_
 refine ci @bU ⟨?_⟩
 have b3:Y X (bn X h j (zu [.Z 0, .str [], .Z 0, .int .u64 0, .zF, .zF, .Z 0] 7)) j=zu [.Z 0, .str [], .Z 0, .int .u64 0, .zF, .zF, .Z 0] 7:=bg aE
 have bN:bo X h j (bn X h j (zu [.Z 0, .str [], .Z 0, .int .u64 0, .zF, .zF, .Z 0] 7)) (j+1):=dM
 refine fK (λm H T aU=>∃(W:Nat),H.g 0=some (.ptr gc 0)/\H.g 2=some (.ptr j 0)/\H.g 6=some (.agg (By.map D.str))/\H.g 7=some (.Z (W:Int))/\W+m=17/\Y X T j=zu [.Z 0, .str [], .Z 0, .int .u64 0, .zF, .zF, .Z 0] 7/\bo X h j T aU/\j+1<=aU/\∀q<W,∀x,By[q]? =some x->KE (s.drop i) x=false)
  17 ⟨0,bw,bw,bw,fW,Zo,b3,bN,Zi _,λq aD=>Zo⟩ ?_
 clear b3 bN
 rintro m H aM a1 ⟨W,t0,dQ,fU,gd,bK,b7,bJ,lv,nz⟩
 have hg:=V.ab (bJ.ab gc Le)
 have d3:=hg.d3
 have db:=hg.db
 cases m with
 |zero=>
  have d:decide ((W:Int)<17)=false:=by simp only[Zb];omega
  have ch:wX s i=none:=by
   unfold wX
   rw[acB _ _ W nz,show By.drop W=[] from ZH (by show 17<=W;omega)]
   rfl
  rw[ch]
  refine et @gd @d @dQ ⟨?_⟩
  exact⟨rfl,bo.set bJ Zo aE Zo⟩
 |succ m=>
  have d:decide ((W:Int)<17)=true:=by simp only[Zh];omega
  have bF:=zv W
  obtain⟨p,ay⟩:∃p,By[W]? =some p:=⟨_,Ze (by show W<17;omega)⟩
  have dS:uZ false 17 1 (.agg (By.map D.str)) (.Z (W:Int))=some (.str p):=by
   have:Nat.blt W 17=true:=by simp[Nat.blt];omega
   simp only[uZ,sv,this,eX,j3,qG,Yl,Zy,ay];rfl
  refine eF @gd @fU @t0 @d @dS @d3 (Za @db @jF) ⟨?_⟩
  refine(ag8 aw.todu (s.drop i) p).Zm ?_
  rintro ac aX bf ⟨rfl,rfl,rfl⟩
  have oV:decide (p.length<=(s.drop i).length/\(s.drop i).take p.length=p)=KE (s.drop i) p:=rfl
  rw[oV]
  cases gH:KE (s.drop i) p with
  |true=>
   have ch:wX s i=some p:=by
    unfold wX
    obtain⟨af,z⟩:=Zc.1 ay
    have aH:By.drop W=p::By.drop (W+1):=by rw[Zv af,z]
    rw[acB _ _ W nz,aH,zj,gH]
   rw[ch]
   refine ci @dQ ⟨?_⟩
   exact⟨rfl,bo.set bJ Zo aE Zo⟩
  |false=>
   refine cT @gd @bF ⟨?_⟩
   refine⟨m,Zo,W+1,a7 t0,a7 dQ,a7 fU,bw,Zo,b7,⟨Zo,bJ.ab⟩,Zo,λq aD x af=> ?_⟩
   by_cases OT:q=W
   ·subst OT;rw[ay]at af;cases af;exact gH
   ·exact nz q Zo x af
end
def yV(s:bi)(i:Nat):Option Tok:=match s[i]? with
 |none=>none
 |some c=>if iS c then Fu s i else if rs c then(if (u4 s i).2 then some (u4 s i).1 else none)else(wX s i).map FL
def l1(x:Tok)(i:Nat):Tok:=⟨x.kind,x.text,i,x.n,x.ty⟩
def rK(s:bi):Nat->List Tok->Nat->Option (Except Int (List Tok))
 |0,_,_=>none
 |n+1,aT,i=>if i<s.length then match yV s i with
   |none=>some (.error i)
   |some x=>rK s n (aT++[l1 x i]) (oD s s.length (i+x.text.length))
  else some (.ok (aT++[⟨7,[],i,0,dH⟩]))
def RO(s:bi):∀(n i:Nat),i<=oD s n i:=by
 intro n
 induction n with
 |zero=>intro i;exact Zi _
 |succ n al=>
  intro i
  rw[oD]
  split
  ·exact Zi _
  ·split
   ·exact ZB Zo (al (i+1))
   ·split
    ·exact ZB Zo (al _)
    ·exact Zi _
def Ww{s:bi}{i:Nat}{x:Tok}(a:yV s i=some x):1<=x.text.length/\i+x.text.length<=s.length:=by
 unfold yV at a
 cases aA:s[i]? with
 |none=>rw[aA]at a;cases a
 |some c=>
  rw[aA]at a
  simp only[]at a
  obtain⟨af,z⟩:=Zc.1 aA
  have aH:s.drop i=c::s.drop (i+1):=by rw[Zv af,z]
  have az:(s.drop i).length=s.length-i:=YD
  split at a
  ·rename_i qx
   have I:=FV iS (s.drop i)
   have J:1<=((s.drop i).takeWhile iS).length:=by rw[aH,YG,qx];simp
   unfold Fu at a
   simp only[]at a
   generalize (s.drop i).takeWhile iS=d at*
   split at a
   ·cases a
   ·have am:=FV ja (s.drop (i+d.length))
    rw[YD]at am
    split at a
    ·cases a;exact⟨J,by show i+d.length<=_;omega⟩
    ·split at a
     ·split at a
      ·cases a
       refine⟨?_, ?_⟩
       ·show 1<=(d++_).length;rw[ZO];omega
       ·show i+(d++_).length<=_;rw[ZO];omega
      ·cases a
     ·cases a
  ·split at a
   ·rename_i AQ
    have I:=FV ja (s.drop i)
    have J:1<=((s.drop i).takeWhile ja).length:=by rw[aH,YG,show ja c=true from by simp[ja,AQ]];simp
    split at a
    ·cases a
     exact⟨J,by show i+((s.drop i).takeWhile ja).length<=_;omega⟩
    ·cases a
   ·simp only[Yp]at a
    obtain⟨p,I,rfl⟩:=a
    have J:=List.find?_some I
    have am:=List.mem_of_find?_eq_some I
    simp[KE]at J
    refine⟨?_, ?_⟩
    ·show 1<=p.length
     revert am
     clear I J
     revert p
     decide
    ·show i+p.length<=_;omega
def dD.narrow{C:aL}{h:K ag}{P:Nat->Prop}{b bl:Nat}{aW:D}{br:List (List D)}(a:dD C h P b aW bl br):dD C h (λe=>e=b) b aW bl br:=⟨λ_=>rfl,a.many,a.wide,a.len,a.f3,a.cell⟩
section
variable{X:cb}{h T aP aM:K ag}{j an aG a1 gc:Nat}{s:bi}{i:Nat}
structure Jp(X:cb):Prop where
 err:lV X
 res:MV X
 sig:Rf X
def aaO(X:cb)(j:Nat)(r:Except Int (List Tok))(ac:D)(T:K ag)(an:Nat):Prop:=match r with
 | .error F=>ac= .tuple [.aV, .agg [.Z 20, .Z F]]
 | .ok aT=>∃ao bP,ac= .tuple [ao, .agg [.Z 0, .Z 0]]/\dD X T (λe=>e=bP) bP ao 7 (aT.map cd)/\j<=bP/\bP<an
def anh(aw:iI X)(eN:Jp X)(aF:s.length<=65536)(aj:∀c∈s,c<256)(aE:(o X).a2<=j){a0:D}(az:gy a0=some (.Z (s.length:Int)))(ED:∀T aU,bo X h j T aU->Cc X T a0=some (.str s))
 {r:Except Int (List Tok)}(V:rK s (s.length+1) [] (oD s s.length 0)=some r):
 aY X 66 [a0] h j (λac T an=>aaO X j r ac T an/\bo X h j T an) (λ_ _ _=>False):=by
 refine zx aw.todu (amf X) ?_
 rw[amg]
 unfold aav
 have qm:decide ((65536:Int)<(s.length:Int))=false:=by simp only[Zb];omega
 have uJ:=ED (bn X h j (zu [.Z 0, .Z 0] [D.Z 0, .Z 0].length)) (j+1) dM
 refine cT @az @qm ⟨?_⟩
 refine fw uJ ?_
 refine cK ⟨?_⟩
 refine fh (λaP=>Y X aP j=zu [.Z 0, .Z 0] 2/\Y X aP (j+1)=zu [.str s, .Z ((0:Nat):Int)] 2/\bo X h j aP (j+1+1)) ⟨by simp(disch:=omega) only[aI,bg]<;>rfl,by rw[bg Zo];rfl,dM⟩ ?_
 rintro aP ⟨b3,b7,bN⟩
 have tv:nn X aP (j+1) s 0:=⟨b7,Zo,aF,Zo⟩
 refine(abq aw tv aj Zo Zo).Zm ?_
 rintro ac aM a1 ⟨hg,dl⟩
 have f7:=dl.le
 have cS:Y X aM j=zu [.Z 0, .Z 0] 2:=by rw[dl.ab _ Zo Zs];exact b3
 have bJ:bo X h j aM a1:=⟨Zo,λe z=>by rw[dl.ab e Zo (by simp;omega)];exact bN.ab e z⟩
 refine gZ ?_
 refine fK (λm H T aU=>∃(aW:D) (aT:List Tok) (cJ:List Nat) (W:Nat),H.g 3=some (.ptr j 0)/\H.g 4=some (.ptr (j+1) 0)/\H.g 5=some aW/\Y X T j=zu [.Z 0, .Z 0] 2/\nn X T (j+1) s W/\gB X T aW 7 (aT.map cd).flatten cJ/\(∀e∈cJ,j+2<=e/\e<aU)/\bo X h j T aU/\j+2<=aU/\aT.length<=W/\rK s m aT W=some r)
  (s.length+1) ⟨.aV,[],[],_,bw,bw,bw,cS,hg, .inl (.inl ⟨rfl,rfl,rfl⟩),Zs,bJ,Zo,Zs,V⟩ ?_
 clear V b3 b7 cS tv hg bN bJ dl f7 uJ
 rintro m H aM a1 ⟨aW,aT,cJ,W,t3,t4,t5,b7,hg,wl,n2,bJ,lv,aDS,V⟩
 have d3:=hg.d3
 have db:=hg.db
 have uO:=hg.le
 cases m with
 |zero=>cases V
 |succ m=>
 rw[rK]at V
 have aeq:∀r∈aT.map cd,r.length=7:=λr a=>by obtain⟨x,_,rfl⟩:=ZE.1 a;rfl
 have pC:=x1 aeq
 rw[Zn]at pC
 have aa6:∀(aX:K ag) (bf b:Nat) (x:Tok),(∀e∈cJ,Y X aX e=Y X aM e)->a1<=bf->Y X aX b=zu (cd x) 7->
  ∃jJ bC gC,kG X aX bf 7 aW (.slice b 0 1 1)=some (.fs jJ bC (bf+1))/\kS X bC jJ 7 ((aT++[x]).map cd).flatten gC/\(∀e∈gC,e=bf\/e∈cJ)/\∀e,e≠bf->e∉cJ->Y X bC e=Y X aX e:=by
  intro aX bf b x aD AX Ow
  have ks:lA X aX 7 (.slice b 0 1 1)=some (1,cd x):=sD Ow (n8 _) rfl _
  obtain⟨jJ,bC,gC,I,J,am,aB⟩:=(wl.ab aD).append (j:=bf) Zd ks rfl Zd rfl (by rw[pC,show(cd x).length=7 from rfl];omega) Zo (λe z=>zq (n2 e z))
  refine⟨jJ,bC,gC,I, ?_,am,aB⟩
  rw[Yi,zg,ZL,List.map_nil,Yt,List.flatten_nil,Yx]
  exact J
 by_cases bK:W<s.length
 ·have cX:=zs W s.length
  rw[Zu bK]at V
  obtain⟨c,aA⟩:∃c,s[W]? =some c:=⟨_,Ze bK⟩
  have dS:=CX .i64 aA
  have OC:=aj c (Zj aA)
  refine he @t4 @d3 (Za @db (Za @cX @dS)) ⟨?_⟩
  refine gZ ?_
  refine he @t4 @d3 (Za @db (Za @cX @dS)) ⟨?_⟩
  refine gZ ?_
  refine he @t4 @d3 (Za @db (Za @cX @dS)) ⟨?_⟩
  have rd:∀(q:Nat),(iS c=true->q=113)->(iS c=false->rs c=true->q=115)->(iS c=false->rs c=false->q=111)->∀Iw,a1<=Iw->
   aY X q [.ptr (j+1) 0] aM Iw (λac T aU=>(∃x,ac= .tuple [.agg (cd x), .bool (yV s W).isSome]/\∀e,yV s W=some e->x=e)/\bo X aM Iw T aU) (λ_ _ _=>False):=by
   intro q bR cq cP Iw aDC
   unfold yV
   rw[aA]
   simp only[]
   cases qx:iS c with
   |true=>
    rw[bR qx]
    simp only[ZC]
    exact axV aw eN.err hg aj Zo Zo
   |false=>
    simp only[Zw,ZA]
    cases AQ:rs c with
    |true=>
     rw[cq qx AQ]
     simp only[ZC]
     refine(aB3 aw eN.err eN.res hg aj Zo Zo).Zm ?_
     rintro ac T aU ⟨rfl,bT⟩
     refine⟨⟨(u4 s W).1, ?_,λe a=> ?_⟩,bT⟩
     ·cases(u4 s W).2<;>rfl
     ·split at a
      ·cases a;rfl
      ·cases a
    |false=>
     rw[cP qx AQ]
     simp only[Zw,ZA]
     refine(aAg aw eN.sig hg Zo Zo).Zm ?_
     rintro ac T aU ⟨rfl,bT⟩
     refine⟨⟨(match wX s W with|some p=>FL p|none=>hc), ?_,λe a=> ?_⟩,bT⟩
     ·cases wX s W<;>rfl
     ·cases bL:wX s W with
      |none=>rw[bL]at a;cases a
      |some p=>rw[bL]at a;cases a;rfl
  refine kt (λc1 T aU=>∃q,c1.g 3=some (.ptr j 0)/\c1.g 4=some (.ptr (j+1) 0)/\c1.g 5=some aW/\c1.g 6=some (.func (.func q) [.ptr (j+1) 0] [])/\T=aM/\a1<=aU/\(iS c=true->q=113)/\(iS c=false->rs c=true->q=115)/\(iS c=false->rs c=false->q=111)) (λaD6 TY=> ?_) ?_
  ·refine(Sa aw.todu c).Zm ?_
   rintro ac aX bf ⟨rfl,rfl,rfl⟩
   cases qx:iS c with
   |true=>
    refine ci @t4 ⟨?_⟩
    exact TY _ _ _ ⟨113,a7 t3,a7 t4,a7 t5,bw,rfl,Zo,λ_=>rfl,(λa=>absurd a (by simp[qx])),(λa=>absurd a (by simp[qx]))⟩
   |false=>
    refine ci @t4 ⟨?_⟩
    refine(abn aw.todu c).Zm ?_
    rintro ac aX bf ⟨rfl,rfl,rfl⟩
    cases AQ:rs c with
    |true=>
     refine ci @t4 ⟨?_⟩
     exact TY _ _ _ ⟨115,a7 t3,a7 t4,a7 t5,bw,rfl,Zo,(λa=>absurd a (by simp[qx])),λ_ _=>rfl,(λ_ a=>absurd a (by simp[AQ]))⟩
    |false=>
     refine ci @t4 ⟨?_⟩
     exact TY _ _ _ ⟨111,a7 t3,a7 t4,a7 t5,bw,rfl,Zo,(λa=>absurd a (by simp[qx])),(λ_ a=>absurd a (by simp[AQ])),λ_ _=>rfl⟩
  clear t3 t4 t5
  rintro aCi aX bf ⟨q,t3,t4,t5,fU,rfl,AX,bR,cq,cP⟩
  refine ci @fU ⟨?_⟩
  refine(rd q bR cq cP _ AX).Zm ?_
  clear rd bR cq cP fU
  rintro ac bC da ⟨⟨x,rfl,af⟩,dv⟩
  have jC:=dv.le
  have eh:Y X bC j=zu [.Z 0, .Z 0] 2:=by rw[dv.ab _ Zo];exact b7
  have O9:=hg.ab (dv.ab (j+1) Zo)
  have G8:bo X h j bC da:=bJ.trans ⟨Zo,λe z=>dv.ab e Zo⟩
  have au0:cd x=[.Z x.kind, .str x.text, .Z x.at_, .int .u64 x.n, .bool x.ty.b, .bool x.ty.s, .Z x.ty.w]:=rfl
  rw[au0]
  refine h8 ⟨?_⟩
  refine h8 ⟨?_⟩
  refine h8 ⟨?_⟩
  refine h8 ⟨?_⟩
  refine h8 ⟨?_⟩
  generalize lr:bn X _ da _=bW
  have bk:∀e,e<da->Y X bW e=Y X bC e:=λe z=>by rw[<-lr];exact zw
  have fS:Y X bW da=zu (cd x) 7:=by rw[<-lr,bg Zo];rfl
  have dT:=eh
  rw[<-bk _ Zo]at dT
  have K9:=O9.ab (bk (j+1) Zo)
  have dJ:bo X h j bW (da+1):=⟨Zo,λe z=>by rw[bk e Zo];exact G8.ab e z⟩
  clear lr eh
  have jO:=K9.db
  cases kc:yV s W with
  |none=>
   rw[kc]at V
   simp only[Zf]at V
   subst V
   simp only[Z2]
   refine et @t4 @t3 @jO ⟨?_⟩
   exact⟨rfl,bo.set dJ (Zi _) aE Zo⟩
  |some e=>
   have:=af e kc
   subst this
   rw[kc]at V
   simp only[]at V
   obtain⟨CP,E5⟩:=Ww kc
   simp only[Z9]
   simp only[Yk]
   refine et @t4 @t3 @jO ⟨?_⟩
   generalize fB:bn X bW da _=b9
   have b6:∀e,e≠da->Y X b9 e=Y X bW e:=λe z=>by rw[<-fB,aI Zo z]
   have eY:Y X b9 da=some (.cells (dN (K.ofList (cd x) 0 .nil) 2 [.Z (W:Int)]) 7 .own):=by rw[<-fB,bg Zo];rfl
   have n6:=K9.ab (b6 (j+1) Zo)
   have eG:bo X h j b9 (da+1):=⟨Zo,λe z=>by rw[b6 e Zo];exact dJ.ab e z⟩
   have h7:=dT
   rw[<-b6 _ Zo]at h7
   have dy:∀e∈cJ,Y X b9 e=Y X aX e:=λe z=>by have:=n2 e z;rw[b6 e Zo,bk e Zo,dv.ab e Zo]
   clear fB fS dT K9 dJ jO b6 bk O9 G8
   have ei:aO X b9 (.ptr da 1)=some (.str x.text):=by rw[bO eY];rfl
   have bF:bq .add (.Z (W:Int)) (.Z (x.text.length:Int))=some (.Z ((W+x.text.length:Nat):Int)):=by rw[eJ Zo Zo];rfl
   refine uw @ei ⟨?_⟩
   refine h8 ⟨?_⟩
   refine uw @bF ⟨?_⟩
   refine h8 ⟨?_⟩
   refine h8 ⟨?_⟩
   refine fw (hF (q:=1) (b:=j+1) (U:=1) (n:=2) n6.g Zo rfl Zd Zd rfl) ?_
   generalize n0:bn X b9 (j+1) _=cB
   have c5:∀e,e≠j+1->Y X cB e=Y X b9 e:=λe z=>by rw[<-n0,aI Zo z]
   have aup:nn X cB (j+1) s (W+x.text.length):=⟨by rw[<-n0,bg Zo];rfl,E5,aF,Zo⟩
   have eW:bo X h j cB (da+1):=⟨Zo,λe z=>by rw[c5 e Zo];exact eG.ab e z⟩
   rw[<-c5 _ Zo]at eY h7
   have gQ:∀e∈cJ,Y X cB e=Y X aX e:=λe z=>by have:=n2 e z;rw[c5 e Zo];exact dy e z
   clear n0 c5 n6 eG dy ei
   have fT:aO X cB (.ptr da 0)=some (.Z x.kind):=by rw[bO eY];rfl
   have ei:aO X cB (.ptr da 1)=some (.str x.text):=by rw[bO eY];rfl
   have c4:aO X cB (.ptr da 2)=some (.Z (W:Int)):=by rw[bO eY];rfl
   have fa:aO X cB (.ptr da 3)=some (.int .u64 x.n):=by rw[bO eY];rfl
   have g6:aO X cB (.ptr da 4)=some (.bool x.ty.b):=by rw[bO eY];rfl
   have gJ:aO X cB (.ptr da 5)=some (.bool x.ty.s):=by rw[bO eY];rfl
   have m7:aO X cB (.ptr da 6)=some (.Z x.ty.w):=by rw[bO eY];rfl
   refine eF @fT @ei @c4 @fa @g6 @gJ (Za @m7 @t5) ⟨?_⟩
   obtain⟨jJ,dX,gC,ix,UC,KG,ym⟩:=aa6 (bn X cB (da+1+11) (zu (cd (l1 x W)) 7)) (da+1+11+1) (da+1+11) (l1 x W) (λe z=>by have:=n2 e z;rw[aI Zo Zo];exact gQ e z) Zo (bg Zo)
   refine kN ix ?_
   have dV:∀e,e<j+2->e∉cJ:=λe I J=>zq (n2 e J)
   have hS:∀e,e<j+2->Y X dX e=Y X cB e:=λe z=>by rw[ym e Zo (dV e z),aI Zo Zo]
   have auq:=aup.ab (hS (j+1) Zo)
   rw[<-hS _ Zo]at h7
   have hX:bo X h j dX (da+1+11+1+1):=⟨Zo,λe z=>by rw[hS e Zo];exact eW.ab e z⟩
   have qw:∀e∈gC,j+2<=e/\e<da+1+11+1+1:=λe z=>by
    rcases KG e z with rfl|a
    ·omega
    ·have:=n2 e a;omega
   refine ci @t4 ⟨?_⟩
   refine(abq aw auq aj Zo Zo).Zm ?_
   rintro ac ee jo ⟨rp,hf⟩
   have uP:=hf.le
   refine⟨m,Zo,jJ,aT++[l1 x W],gC,_,a7 t3,a7 t4,bw,by rw[hf.ab _ Zo Zs];exact h7,rp, .inl (UC.ab λe z=>hf.ab e (qw e z).2 (by have:=qw e z;simp;omega)),λe z=>zq (qw e z),⟨Zo,λe z=>by rw[hf.ab e Zo (by simp;omega)];exact hX.ab e z⟩,Zo, ?_,V⟩
   have:=RO s s.length (W+x.text.length)
   simp only[ZO,ZD,ZT]
   omega
 ·have cX:=zr W s.length
  rw[Zg bK]at V
  cases V
  refine gg @t4 @d3 @db @cX @t5 ⟨?_⟩
  obtain⟨jJ,bC,gC,ix,tz,vV,gh⟩:=aa6 (bn X aM (a1+10) (zu (cd ⟨7,[],W,0,dH⟩) 7)) (a1+10+1) (a1+10) ⟨7,[],W,0,dH⟩ (λe z=>aI Zo (zq (n2 e z))) Zo (bg Zo)
  refine kN ix ?_
  have dV:∀e,e<j+2->e∉cJ:=λe I J=>zq (n2 e J)
  have eh:Y X bC j=zu [.Z 0, .Z 0] 2:=by rw[gh _ Zo (dV _ Zo),aI Zo Zo];exact b7
  have dv:bo X h j bC (a1+10+1+1):=⟨Zo,λe z=>by rw[gh _ Zo (dV _ Zo),aI Zo Zo];exact bJ.ab e z⟩
  clear ix gh
  refine ci @t3 ⟨?_⟩
  have ats:∀r∈(aT++[(⟨7,[],W,0,dH⟩:Tok)]).map cd,r.length=7:=λr a=>by obtain⟨x,_,rfl⟩:=ZE.1 a;rfl
  generalize lr:bn X bC j _=bW
  have bk:∀e,e≠j->Y X bW e=Y X bC e:=λe z=>by rw[<-lr,aI Zo z]
  have adI:∀e∈gC,j+2<=e/\e<a1+10+1+1:=λe z=>by
   rcases vV e z with rfl|a
   ·omega
   ·have:=n2 e a;omega
  obtain⟨bP,cA⟩:=(tz.ab (T:=bW) (λe z=>bk e (zq (adI e z)))).tT Zd ats (by simp;omega) (P:=λe=>j<=e/\e<a1+10+1+1) (λe z=>zq (adI e z))
  have jT:=cA.aj Zs
  exact⟨⟨jJ,bP,rfl,dD.narrow cA,jT.1,jT.2⟩,⟨Zo,λe z=>by rw[bk e Zo];exact dv.ab e z⟩⟩
end
section
variable{X:cb}{h T aP aM:K ag}{j an aG a1 aK bP:Nat}{aT:List Tok}{i:Nat}
def Vo(p:D):l0 X h 23 p=aO X h p:=Zk
def Ih(p:D):l0 X h 26 p=d8 X h 2 p:=Zk
def ach:dw X h .eql 20 true .nilIface .nilIface=some .zT:=Zk
def acg(q F:Int):dw X h .eql 20 true (pw q F) .nilIface=some .zF:=Zk
def abs:∃fn c,(o X).P.funcs[67]? =some fn/\fn.body=some c:=NR (Rq X)
def azg(aw:du X){F b:D}{bm:Bool->K ag->Nat->Prop}(a:bm false h j):us X (.func 67) ([]++[F,b]) none h j bm:=by
 refine⟨aw.none _ _ rfl,abs,NS (Rq X) ?_⟩
 show Ay X 67 [F,b] none h j bm
 rw[aaw]
 unfold Rp
 show bB _ _
 refine ci @ach ⟨?_⟩
 exact a
def azh(aw:du X){F b:Nat}{q at_:Int}{db dx:K D}{bm:Bool->K ag->Nat->Prop}(aE:(o X).a2<=F)(lv:(o X).a2<=b)(AP:F≠b)(EA:F<j)(uI:b<j)(hN:Y X h F=some (.cells db 1 .own))(py:Y X h b=some (.cells dx 2 .own))
 (a:∀T aU,j<=aU->aO X T (.ptr F 0)=some .cx->d8 X T 2 (.ptr b 0)=some (.agg [.Z q, .Z at_])->(∀e,e<j->e≠F->e≠b->Y X T e=Y X h e)->bm true T aU):us X (.func 67) ([]++[.ptr F 0, .ptr b 0]) (some (pw q at_)) h j bm:=by
 refine⟨aw.none _ _ rfl,abs,NS (Rq X) ?_⟩
 show Ay X 67 [.ptr F 0, .ptr b 0] (some (pw q at_)) h j bm
 rw[aaw]
 unfold Rp
 show bB _ _
 have RI:Gx 26 (.agg [.Z 0, .Z 0]) true (pw q at_)=some (.tuple [.agg [.Z q, .Z at_], .zT]):=s4 _ _ _
 have FF:∀(H:cV) (n:Nat),(Qp H).g n=H.g n:=λ_ _=>rfl
 refine et @acg @RI @FF ⟨?_⟩
 generalize dZ:bn X _ j _=aP
 have b3:Y X aP j=zu [.Z q, .Z at_] 2:=by rw[<-dZ,bg Zo];rfl
 have I:∀e,e<j->Y X aP e=Y X h e:=λe z=>by rw[<-dZ];exact zw
 rw[<-I F EA]at hN
 rw[<-I b uI]at py
 clear dZ
 refine cT (bO b3) @FF ⟨?_⟩
 refine g2 (by simp[D.same,o3,qM]) ?_
 generalize dI:bn X aP F _=aM
 have b7:Y X aM F=some (.cells (dN db 0 [.cx]) 1 .own):=by rw[<-dI,bg aE];rfl
 have J:∀e,e≠F->Y X aM e=Y X aP e:=λe z=>by rw[<-dI,aI aE z]
 rw[<-J b Zo]at py
 clear dI
 refine uw @FF ⟨?_⟩
 refine fw (hF (q:=2) (b:=b) (U:=0) (n:=2) py lv rfl Zd Zd rfl) ?_
 show bm true _ _
 refine a _ _ Zo ?_ ?_ (λe z UK gi=> ?_)
 ·rw[bO (by rw[aI lv AP];exact b7),jd];rfl
 ·rw[o1,bO (bg lv),bO (bg lv),jd,jd];rfl
 ·rw[aI lv gi,J e UK,I e z]
def azt{ak:bI}{H:cV}{p ah v w:D}(mw:H.bc=[])(J:H.g 2=some p)(am:H.g 3=some ah)(ei:aO X h p=some v)(c4:d8 X h 2 ah=some w)(a:ak (.tuple [v,w]) h j):IQ X ak H h j:=by
 unfold IQ
 rw[mw]
 show cL (H.g 2) (λp=>ax (l0 X h 23 p) λv=>cL (H.g 3) λp=>ax (l0 X h 26 p) λw=>ak (.tuple [v,w]) h j)
 rw[J,am]
 refine lP ?_
 rw[Vo,ei]
 refine lQ ?_
 refine lP ?_
 rw[Ih,c4]
 exact lQ a
def azu{ak:bI}{H:cV}{p ah v w F b:D}(aw:du X)(mw:H.bc=[⟨.fn (.func 67) [F,b],[]⟩])(J:H.g 2=some p)(am:H.g 3=some ah)(ei:aO X h p=some v)(c4:d8 X h 2 ah=some w)(a:ak (.tuple [v,w]) h j):IQ X ak H h j:=by
 unfold IQ
 rw[mw]
 show us X (.func 67) ([]++[F,b]) none h j λ_ h j=>nI X [.cell 2 23, .cell 3 26] ak H [] h j
 refine azg aw ?_
 show cL (H.g 2) (λp=>ax (l0 X h 23 p) λv=>cL (H.g 3) λp=>ax (l0 X h 26 p) λw=>ak (.tuple [v,w]) h j)
 rw[J,am]
 refine lP ?_
 rw[Vo,ei]
 refine lQ ?_
 refine lP ?_
 rw[Ih,c4]
 exact lQ a
def agQ{ak av:bI}{H:cV}{F b:Nat}{q at_:Int}{db dx:K D}(aw:du X)(mw:H.bc=[⟨.fn (.func 67) [.ptr F 0, .ptr b 0],[]⟩])(J:H.g 2=some (.ptr F 0))(am:H.g 3=some (.ptr b 0))
 (aE:(o X).a2<=F)(lv:(o X).a2<=b)(AP:F≠b)(EA:F<j)(uI:b<j)(hN:Y X h F=some (.cells db 1 .own))(py:Y X h b=some (.cells dx 2 .own))
 (a:∀T aU,j<=aU->(∀e,e<j->e≠F->e≠b->Y X T e=Y X h e)->ak (.tuple [.cx, .agg [.Z q, .Z at_]]) T aU):L4 X ak av H (pw q at_) h j:=by
 unfold L4
 rw[mw]
 show us X (.func 67) ([]++[.ptr F 0, .ptr b 0]) (some (pw q at_)) h j λb h j=>bY b (nI X [.cell 2 23, .cell 3 26] ak H [] h j) _
 refine azh aw aE lv AP EA uI hN py (λT aU gq ei c4 aD=> ?_)
 show cL (H.g 2) (λp=>ax (l0 X T 23 p) λv=>cL (H.g 3) λp=>ax (l0 X T 26 p) λw=>ak (.tuple [v,w]) T aU)
 rw[J,am]
 refine lP ?_
 rw[Vo,ei]
 refine lQ ?_
 refine lP ?_
 rw[Ih,c4]
 exact lQ (a T aU gq aD)
def abT{fn:Fn}{first cap Ah:List D}{H:cV}{ak:cV->Prop}(a:ak (Br H ⟨.fn fn cap,first++Ah⟩)):JV (.func fn first cap) Ah H ak:=a
def Dl(s:bi)(n:Nat):Option (Except (Int×Int) (List Go.aR.Node)):=match rK s (s.length+1) [] (oD s s.length 0)with
 |none=>none
 |some (.error F)=>some (.error (20,F))
 |some (.ok aT)=>match p1 n [] aT with
  |none=>none
  |some (.error F)=>some (.error (21,F))
  |some (.ok (ai,_))=>match nC ai with
   |some (q,F)=>some (.error (q,F))
   |none=>some (.ok ai)
def W6(X:cb)(j:Nat)(r:Except (Int×Int) (List Go.aR.Node))(ac:D)(T:K ag)(an:Nat):Prop:=match r with
 | .error (q,F)=>ac= .tuple [.cx, .agg [.Z q, .Z F]]
 | .ok ai=>∃v,ac= .tuple [v, .agg [.Z 0, .Z 0]]/\nQ X T (cQ j an) ai v
def JL(s:bi):∀(n i:Nat),i<=s.length->oD s n i<=s.length:=by
 intro n
 induction n with
 |zero=>intro i a;exact a
 |succ n al=>
  intro i a
  rw[oD]
  split
  ·exact a
  ·rename_i c aA
   have af:=(Zc.1 aA).1
   split
   ·exact al _ Zo
   ·split
    ·have:=FV (λc=>decide (c≠10)) (s.drop i)
     rw[YD]at this
     exact al _ Zo
    ·exact a
def ahY(s:bi):∀(n:Nat) (aT:List Tok) (i:Nat) (ni:List Tok),aT.length<=i->i<=s.length->rK s n aT i=some (.ok ni)->ni.length<=s.length+1:=by
 intro n
 induction n with
 |zero=>intro aT i ni _ _ a;cases a
 |succ n al=>
  intro aT i ni I J a
  rw[rK]at a
  split at a
  ·split at a
   ·cases a
   ·rename_i x af
    obtain⟨bR,cq⟩:=Ww af
    have cP:=RO s s.length (i+x.text.length)
    exact al _ _ _ (by simp;omega) (JL s _ _ cq) a
  ·cases a
   simp;omega
def ayy(aw:iI X)(eN:Jp X)(f6:xC X){s:bi}{n:Nat}(ts:n<=170000)(aF:s.length<=65536)(aj:∀c∈s,c<256)(aE:(o X).a2<=j){a0:D}(az:gy a0=some (.Z (s.length:Int)))(ED:∀T aU,bo X h j T aU->Cc X T a0=some (.str s))
 {r:Except (Int×Int) (List Go.aR.Node)}(V:Dl s n=some r):
 aY X 15 [a0] h j (λac T an=>W6 X j r ac T an/\bo X h j T an) (λ_ _ _=>False):=by
 refine JP (ajW X) (aw.none _ _ rfl) ?_
 rw[ajX]
 unfold XA
 refine cK ⟨?_⟩
 refine fh (λaP=>Y X aP j=zu [.cx] 1/\Y X aP (j+1)=zu [.Z 0, .Z 0] 2/\bo X h j aP (j+1+1)) ⟨by simp(disch:=omega) only[aI,bg]<;>rfl,by rw[bg Zo];rfl,dM⟩ ?_
 rintro aP ⟨b3,b7,bN⟩
 unfold Dl at V
 obtain⟨Bv,HJ⟩:∃Bv,rK s (s.length+1) [] (oD s s.length 0)=some Bv:=by
  cases a:rK s (s.length+1) [] (oD s s.length 0)with
  |none=>rw[a]at V;cases V
  |some Bv=>exact⟨Bv,rfl⟩
 rw[HJ]at V
 refine(anh aw eN aF aj Zo az (λT aU a=>ED T aU (bN.trans a)) HJ).Zm ?_
 rintro ac aM a1 ⟨kc,bJ⟩
 have f7:=bJ.le
 have cS:Y X aM j=zu [.cx] 1:=by rw[bJ.ab _ Zo];exact b3
 have eh:Y X aM (j+1)=zu [.Z 0, .Z 0] 2:=by rw[bJ.ab _ Zo];exact b7
 have jk:=bN.trans bJ
 clear b3 b7
 cases Bv with
 |error F=>
  simp only[Zf]at V
  subst V
  simp only[aaO]at kc
  subst kc
  have R5:decide ((20:Int)≠0)=true:=rfl
  refine ci @R5 ⟨?_⟩
  generalize e9:bn X aM (j+1) _=aX
  have fS:Y X aX (j+1)=zu [.Z 20, .Z F] 2:=by rw[<-e9,bg Zo];rfl
  have am:∀e,e≠j+1->Y X aX e=Y X aM e:=λe z=>by rw[<-e9,aI Zo z]
  rw[<-am _ Zo]at cS
  have cg:bo X h j aX a1:=⟨Zo,λe z=>by rw[am e Zo];exact jk.ab e z⟩
  clear e9 am eh
  refine fw (hF (q:=1) (b:=j) (U:=0) (n:=1) cS aE rfl Zd Zd rfl) ?_
  generalize eH:bn X aX j _=bC
  have dT:Y X bC j=some (.cells (dN (K.ofList [.cx] 0 .nil) 0 [.cx]) 1 .own):=by rw[<-eH,bg aE];rfl
  have aB:∀e,e≠j->Y X bC e=Y X aX e:=λe z=>by rw[<-eH,aI aE z]
  rw[<-aB _ Zo]at fS
  have dv:bo X h j bC a1:=⟨Zo,λe z=>by rw[aB e Zo];exact cg.ab e z⟩
  clear eH aB cS cg
  refine uw (bO fS) ⟨?_⟩
  refine g2 (by simp[D.same,o3,qM]) ?_
  refine fw (hF (q:=2) (b:=j+1) (U:=0) (n:=2) fS Zo rfl Zd Zd rfl) ?_
  refine azt (v:= .cx) (w:= .agg [.Z 20, .Z F]) rfl (fW) (fW) ?_ ?_ ⟨rfl,bo.set dv Zo aE Zo⟩
  ·rw[bO (by rw[aI Zo Zo];exact dT),jd];rfl
  ·rw[o1,bO (bg Zo),bO (bg Zo),jd,jd];rfl
 |ok aT=>
  obtain⟨ao,bP,rfl,cA,aCQ,aCR⟩:=kc
  simp only[]at V
  have R5:decide ((0:Int)≠0)=false:=rfl
  refine ci @R5 ⟨?_⟩
  generalize e9:bn X aM (j+1) _=aX
  have fS:Y X aX (j+1)=zu [.Z 0, .Z 0] 2:=by rw[<-e9,bg Zo];rfl
  have am:∀e,e≠j+1->Y X aX e=Y X aM e:=λe z=>by rw[<-e9,aI Zo z]
  rw[<-am _ Zo]at cS
  have cg:bo X h j aX a1:=⟨Zo,λe z=>by rw[am e Zo];exact jk.ab e z⟩
  have aur:=cA.ab (T:=aX) (λe z=>by subst z;exact am e Zo)
  clear e9 am eh
  refine abT ?_
  obtain⟨bF,cn,eU⟩:=k0 cA.len
  refine cK ⟨?_⟩
  have cR:e8 [.aV, .Z 0] [(0,1,ao)]=some (.agg [ao, .Z 0]):=by
   simp[e8,qp,qq,bF,lS]
  refine fw cR ?_
  refine cK ⟨?_⟩
  generalize e4:Br _ _=vr
  have kO:vr.bc=[⟨.fn (.func 67) [.ptr j 0, .ptr (j+1) 0],[]⟩]:=by rw[<-e4];rfl
  have dQ:vr.g 2=some (.ptr j 0):=by rw[<-e4];rfl
  have t3:vr.g 3=some (.ptr (j+1) 0):=by rw[<-e4];rfl
  have abV:∀k,o5 2 k=false->(hL k vr).g 2=some (.ptr j 0):=λk a=>by simp[q1,dQ,a]
  have abW:∀k,o5 3 k=false->(hL k vr).g 3=some (.ptr (j+1) 0):=λk a=>by simp[q1,t3,a]
  have abP:∀k,(hL k vr).bc=[⟨.fn (.func 67) [.ptr j 0, .ptr (j+1) 0],[]⟩]:=λk=>kO
  clear e4
  refine fh (λbC=>Y X bC a1=zu [ao, .Z ((0:Nat):Int)] 2/\bo X aX a1 bC (a1+1)) ⟨by rw[bg Zo];rfl,dM⟩ ?_
  rintro bC ⟨dT,AI⟩
  have fI:=ahY s _ _ _ _ Zs (JL s _ _ Zo) HJ
  have at3:aR X bC a1 bP aT 0:=⟨⟨_,ao,dT,rfl,rfl,aur.ab λe z=>by subst z;exact AI.ab e Zo⟩,Zo⟩
  have at6:iJ X bC (a1+1) a1 bP aT 0:=⟨Zo,Zo,Zo,Zo,Zo,at3⟩
  obtain⟨Me,CK⟩:∃Me,p1 n [] aT=some Me:=by
   cases a:p1 n [] aT with
   |none=>rw[a]at V;cases V
   |some Me=>exact⟨Me,rfl⟩
  rw[CK]at V
  have cG:Y X bC j=zu [.cx] 1:=by rw[AI.ab _ Zo];exact cS
  have cw:Y X bC (j+1)=zu [.Z 0, .Z 0] 2:=by rw[AI.ab _ Zo];exact fS
  refine(ayU aw.todu f6 ts Zo at6 (r:=Me) CK).mono ?_ ?_
  ·rintro v bW b4 ⟨ai,i5,rfl,CJ,_,dF⟩
   have ib:=dF.le
   simp only[]at V
   have d9:Y X bW j=zu [.cx] 1:=by rw[dF.ab _ Zo (by simp;omega)];exact cG
   have fQ:Y X bW (j+1)=zu [.Z 0, .Z 0] 2:=by rw[dF.ab _ Zo (by simp;omega)];exact cw
   have aez:∀e,e<j->Y X bW e=Y X h e:=λe z=>by rw[dF.ab e Zo (by simp;omega),AI.ab e Zo];exact cg.ab e z
   obtain⟨Ai,_,_,_,rfl,adM,_⟩:=id CJ
   have aCS:=adM.1
   have aCT:=adM.2
   refine uw @dQ ⟨?_⟩
   refine fw (hF (q:=1) (b:=j) (U:=0) (n:=1) d9 aE rfl Zd Zd rfl) ?_
   generalize fB:bn X bW j _=b9
   have eY:Y X b9 j=some (.cells (dN (K.ofList [.cx] 0 .nil) 0 [.ptr Ai 0]) 1 .own):=by rw[<-fB,bg aE];rfl
   have b6:∀e,e≠j->Y X b9 e=Y X bW e:=λe z=>by rw[<-fB,aI aE z]
   clear fB
   have m7:aO X b9 (.ptr j 0)=some (.ptr Ai 0):=by rw[bO eY,jd];rfl
   refine uw @dQ ⟨?_⟩
   refine uw @m7 ⟨?_⟩
   have at8:=CJ.ab (T:=b9) (bm:=cQ (a1+1) b4) (λe z=>b6 e (zq z.1)) (λ_ a=>a)
   have mH:Y X b9 (j+1)=zu [.Z 0, .Z 0] 2:=by rw[b6 _ Zo];exact fQ
   refine(awU (j:=b4) (h:=b9) aw.todu Zo at8 (λe z=>z.2)).mono ?_ ?_
   ·rintro Mw cB ef ⟨oR,rfl,eW⟩
    have n5:=eW.le
    rw[oR]at V
    simp only[Zf]at V
    subst V
    have h7:Y X cB j=some (.cells (dN (K.ofList [.cx] 0 .nil) 0 [.ptr Ai 0]) 1 .own):=by rw[eW.ab _ Zo];exact eY
    have Dp:Y X cB (j+1)=zu [.Z 0, .Z 0] 2:=by rw[eW.ab _ Zo];exact mH
    have mE:aO X cB (.ptr j 0)=some (.ptr Ai 0):=by rw[bO h7,jd];rfl
    refine uw @dQ ⟨?_⟩
    refine uw @mE ⟨?_⟩
    refine h8 ⟨?_⟩
    refine uw @dQ ⟨?_⟩
    refine fw (hF (q:=1) (b:=j) (U:=0) (n:=1) h7 aE rfl Zd Zd rfl) ?_
    generalize rg:bn X cB j _=dX
    have mW:Y X dX j=some (.cells (dN (dN (K.ofList [.cx] 0 .nil) 0 [.ptr Ai 0]) 0 [.ptr Ai 0]) 1 .own):=by rw[<-rg,bg aE];rfl
    have eb:∀e,e≠j->Y X dX e=Y X cB e:=λe z=>by rw[<-rg,aI aE z]
    rw[<-eb _ Zo]at Dp
    clear rg
    refine uw @t3 ⟨?_⟩
    refine fw (hF (q:=2) (b:=j+1) (U:=0) (n:=2) Dp Zo rfl Zd Zd rfl) ?_
    have rl:∀cY e,e≠j->e≠j+1->e<b4->Y X (bn X dX (j+1) cY) e=Y X bW e:=λcY e I J am=>by
     rw[aI Zo J,eb e I,eW.ab e am,b6 e I]
    refine azu (v:= .ptr Ai 0) (w:= .agg [.Z 0, .Z 0]) aw.todu kO dQ t3 ?_ ?_ ⟨⟨.ptr Ai 0,rfl,CJ.ab (λe z=>rl _ e (zq z.1) (zq z.1) z.2) (λe z=>⟨zq z.1,zq z.2⟩)⟩,⟨Zo,λe z=>by rw[rl _ e Zo Zo Zo];exact aez e z⟩⟩
    ·rw[bO (by rw[aI Zo Zo];exact mW),jd];rfl
    ·rw[o1,bO (bg Zo),bO (bg Zo),jd,jd];rfl
   ·rintro ac cB ef ⟨q,F,oR,rfl,eW⟩
    have n5:=eW.le
    rw[oR]at V
    simp only[Zf]at V
    subst V
    refine agQ (db:=dN (K.ofList [.cx] 0 .nil) 0 [.ptr Ai 0]) (dx:=K.ofList [.Z 0, .Z 0] 0 .nil) aw.todu (abP _) (abV _ rfl) (abW _ rfl) aE Zo Zo Zo Zo ?_ ?_ (λT aU gq aD=>⟨rfl,Zo,λe z=> ?_⟩)
    ·rw[eW.ab _ Zo];exact eY
    ·rw[eW.ab _ Zo];exact mH
    ·rw[aD e Zo Zo Zo,eW.ab e Zo,b6 e Zo];exact aez e z
  ·rintro ac bW b4 ⟨F,rfl,rfl,dF⟩
   have ib:=dF.le
   simp only[Zf]at V
   subst V
   refine agQ (db:=K.ofList [.cx] 0 .nil) (dx:=K.ofList [.Z 0, .Z 0] 0 .nil) aw.todu (abP _) (abV _ rfl) (abW _ rfl) aE Zo Zo Zo Zo ?_ ?_ (λT aU gq aD=>⟨rfl,Zo,λe z=> ?_⟩)
   ·rw[dF.ab _ Zo (by simp;omega)];exact cG
   ·rw[dF.ab _ Zo (by simp;omega)];exact cw
   ·rw[aD e Zo Zo Zo,dF.ab e Zo (by simp;omega),AI.ab e Zo];exact cg.ab e z
end
end
end Go.Proofs.YtpfajohmofnkfaaGreatDoor

