/- A part of the proof of the claim's last text: what it is used for is said there; no condition of its own. -/
import Derived.Test.YtpfajohmofnkfaaGreatDoorYl
set_option maxHeartbeats 8000000
set_option linter.all false
namespace Go.Proofs.YtpfajohmofnkfaaGreatDoor
open Go.bg Go.a2
noncomputable section
def tA(s:bx)(i:Nat):Tok×Bool:=
 let w:=(s.drop i).takeWhile iL
 (⟨if (la w).isSome then 3 else if w∈vt then 2 else 1,w,0,0,(la w).getD dJ⟩,decide (w.length<=32))
def acP{l:bx}(a:∀c∈l,iL c=true):BY l:=by
 intro c az
 have:=a c az
 simp[iL,qk,iz]at this
 omega
def ad3{α:Type}(p:α->Bool):∀l:List α,∀c∈l.takeWhile p,p c=true:=by
 intro l
 induction l with
 |nil=>simp
 |cons J l al=>
  intro c az
  rw[Yz]at az
  split at az
  ·rcases Zt.1 az with rfl|az
   ·assumption
   ·exact al c az
  ·simp at az
section
variable{X:ck}{h T aX aJ:S ak}{j ao aL a6 f9:Nat}{s:bx}{i:Nat}
def Sd(Z:mP X h f9 s i)(ai:∀c∈s,c<256)(Y:Nat)(p:Nat->Bool)(ay:∀c,p c=true->iL c=true):((s.drop Y).takeWhile p).length<=65536/\(∀c∈(s.drop Y).takeWhile p,c<256)/\BY ((s.drop Y).takeWhile p):=by
 have R:=D4 p (s.drop Y)
 rw[Yw]at R
 have:=Z.many
 refine⟨Zo,λc az=>ai c (Y4 ((List.takeWhile_sublist p).subset az)),acP λc az=>ay c (ad3 p _ c az)⟩
def awt(ax:is X)(bS:lw X)(eK:Kt X)(Z:mP X h f9 s i)(ai:∀c∈s,c<256)(aK:(q X).a7<=j)(IV:f9<j):
 aR X 115 [.ptr f9 0] h j (λad T ao=>ad= .tuple [.agg (b9 (tA s i).1), .bool (tA s i).2]/\bj X h j T ao) (λ_ _ _=>False):=by
 refine c4 (ae3 X) (ax.none _ _ rfl) ?_
 rw[ae4]
 unfold TD
 have dk:=Z.dk
 have hT:=Z.fM
 obtain⟨cB,cu,ee⟩:=Sd Z ai i iL (λ_ a=>a)
 have sc:∀cR,mP X (bm X h j cR) f9 s i:=λcR=>Z.ac (aE aK Zo)
 refine ci @dk ⟨?_⟩
 refine(NF ax.todv (adG ax.todv) (sc _) Z.le).Zm ?_
 rintro ad aJ a6 ⟨rfl,rfl,rfl⟩
 unfold tA
 generalize (s.drop i).takeWhile iL=w at*
 simp only[]
 refine cH ⟨?_⟩
 refine e8 (λaX=>aa X aX j=some (.cells (S.ofList [.Z 0, .str [], .Z 0, .int .u64 0, .bool false, .bool false, .Z 0] 0 .nil) 7 .own)/\aa X aX (j+1)=some (.cells (S.ofList [.Z 1, .str w, .Z 0, .int .u64 0, .bool false, .bool false, .Z 0] 0 .nil) 7 .own)/\bj X h j aX (j+1+1)) ⟨by simp(disch:=omega) only[aE,bh]<;>rfl,by rw[bh Zo];rfl,dM⟩ ?_
 rintro aX ⟨b3,b2,bU⟩
 refine(aea ax bS cB cu ee Zo).Zm ?_
 rintro ad aY ba ⟨rfl,ca⟩
 have ie:=ca.le
 have r0:=bU.trans ca
 have cQ:aa X aY j=some (.cells (S.ofList [.Z 0, .str [], .Z 0, .int .u64 0, .bool false, .bool false, .Z 0] 0 .nil) 7 .own):=by rw[ca.ac _ Zo];exact b3
 have d1:aa X aY (j+1)=some (.cells (S.ofList [.Z 1, .str w, .Z 0, .int .u64 0, .bool false, .bool false, .Z 0] 0 .nil) 7 .own):=by rw[ca.ac _ Zo];exact b2
 generalize be:(la w).getD dJ=t
 have FJ:eC t=[.bool t.b, .bool t.s, .Z t.w]:=rfl
 rw[FJ]
 have xS:decide ((w.length:Int)<=32)=decide (w.length<=32):=by simp;omega
 have fin:∀(cd:S ak) (er:Nat) (D:Int) (hb:es) (sT:S H),ba<=er->bj X h j cd er->aa X cd (j+1)=some (.cells sT 7 .own)->aa X cd j=some (.cells (S.ofList [.Z 0, .str [], .Z 0, .int .u64 0, .bool false, .bool false, .Z 0] 0 .nil) 7 .own)->
  sT.get 0=some (.Z D)->sT.get 1=some (.str w)->sT.get 2=some (.Z 0)->sT.get 3=some (.int .u64 0)->sT.get 4=some (.bool hb.b)->sT.get 5=some (.bool hb.s)->sT.get 6=some (.Z hb.w)->
  B (b6 X cd 7 (.ptr (j+1) 0)) λav5=>B (lR (.str w)) λav6=>B (aA .leq av6 (.Z 32)) λav7=>B (b7 X cd 7 (.ptr j 0) av5) λVv=>B (b6 X Vv 7 (.ptr j 0)) λv37=>
   H.tuple [v37,av7]= .tuple [.agg (b9 ⟨D,w,0,0,hb⟩), .bool (decide (w.length<=32))]/\bj X h j Vv er:=by
  intro cd er D hb sT axP eO dU eN sl bZ cw c0 ep dG dQ
  have fO:=jS dU sl;have eh:=jS dU bZ;have c5:=jS dU cw;have e5:=jS dU c0;have gW:=jS dU ep;have gB:=jS dU dG;have mC:=jS dU dQ
  refine ev @fO @eh @c5 @e5 @gW @gB (Za @mC @xS) ⟨?_⟩
  exact⟨rfl,bj.set eO (Zi _) aK (Zi _)⟩
 cases r8:(la w).isSome with
 |true=>
  refine hR ⟨?_⟩
  refine hR ⟨?_⟩
  refine hR ⟨?_⟩
  refine hR ⟨?_⟩
  refine hR ⟨?_⟩
  generalize fi:bm X _ ba _=bw
  have fA:aa X bw ba=some (.cells (S.ofList [.bool t.b, .bool t.s, .Z t.w] 0 .nil) 3 .own):=by rw[<-fi,bh Zo];rfl
  have dU:aa X bw j=some (.cells (S.ofList [.Z 0, .str [], .Z 0, .int .u64 0, .bool false, .bool false, .Z 0] 0 .nil) 7 .own):=by rw[<-fi];simp(disch:=omega) only[aE];exact cQ
  have eN:aa X bw (j+1)=some (.cells (S.ofList [.Z 1, .str w, .Z 0, .int .u64 0, .bool false, .bool false, .Z 0] 0 .nil) 7 .own):=by rw[<-fi];simp(disch:=omega) only[aE];exact d1
  have dm:bj X h j bw (ba+1):=r0.trans (by rw[<-fi];exact dM)
  clear fi cQ d1
  refine ci (bJ fA) ⟨?_⟩
  refine gQ (by simp[H.same,nw,o7]) ?_
  generalize kV:bm X bw (j+1) _=bL
  have bN:∀e,e≠j+1->aa X bL e=aa X bw e:=λe I=>by rw[<-kV,aE Zo I]
  have hf:aa X bL (j+1)=some (.cells (dT (S.ofList [.Z 1, .str w, .Z 0, .int .u64 0, .bool false, .bool false, .Z 0] 0 .nil) 0 [.Z 3]) 7 .own):=by rw[<-kV,bh Zo];rfl
  rw[<-bN _ Zo]at fA dU
  have dw:bj X h j bL (ba+1):=⟨dm.le,λe I=>by rw[bN e Zo];exact dm.ac e I⟩
  clear kV bN eN
  refine fE (hO (D:=3) (b:=j+1) (W:=4) (n:=7) hf Zo rfl Zd Zd rfl) ?_
  generalize f8:bm X bL (j+1) _=cd
  have cv:∀e,e≠j+1->aa X cd e=aa X bL e:=λe I=>by rw[<-f8,aE Zo I]
  have kU:aa X cd (j+1)=some (.cells (dT (dT (S.ofList [.Z 1, .str w, .Z 0, .int .u64 0, .bool false, .bool false, .Z 0] 0 .nil) 0 [.Z 3]) 4 [.bool t.b, .bool t.s, .Z t.w]) 7 .own):=by rw[<-f8,bh Zo];rfl
  rw[<-cv _ Zo]at dU
  have eO:bj X h j cd (ba+1+5):=⟨by have:=dw.le;omega,λe I=>by rw[cv e Zo];exact dw.ac e I⟩
  clear f8 cv hf
  have:=fin cd (ba+1+5) 3 t _ Zo eO kU dU rfl rfl rfl rfl rfl rfl rfl
  simp only[ZD]
  refine hR ⟨?_⟩
  exact this
 |false=>
  have Rp:t=dJ:=by
   rw[<-be]
   cases cl:la w with
   |none=>rfl
   |some t=>rw[cl]at r8;cases r8
  refine cH ⟨?_⟩
  refine e8 (λbw=>bj X aY ba bw (ba+1)) dM ?_
  intro bw dm
  have yc:=r0.trans dm
  have dU:aa X bw j=some (.cells (S.ofList [.Z 0, .str [], .Z 0, .int .u64 0, .bool false, .bool false, .Z 0] 0 .nil) 7 .own):=by rw[dm.ac _ Zo];exact cQ
  have eN:aa X bw (j+1)=some (.cells (S.ofList [.Z 1, .str w, .Z 0, .int .u64 0, .bool false, .bool false, .Z 0] 0 .nil) 7 .own):=by rw[dm.ac _ Zo];exact d1
  refine(at5 (j:=ba+1) (h:=bw) ax.todv eK w).Zm ?_
  rintro ad bL cb ⟨rfl,rfl,rfl⟩
  subst Rp
  simp only[Zv,ZB]
  by_cases lM:w∈vt
  ·simp only[lM,Yo,ZD]
   refine hR ⟨?_⟩
   refine hR ⟨?_⟩
   refine hR ⟨?_⟩
   refine fE (hO (D:=1) (b:=j+1) (W:=0) (n:=7) eN Zo rfl Zd Zd rfl) ?_
   generalize f8:bm X _ (j+1) _=cd
   have cv:∀e,e≠j+1->aa X cd e=aa X bL e:=λe I=>by rw[<-f8,aE Zo I]
   have kU:aa X cd (j+1)=some (.cells (dT (S.ofList [.Z 1, .str w, .Z 0, .int .u64 0, .bool false, .bool false, .Z 0] 0 .nil) 0 [.Z 2]) 7 .own):=by rw[<-f8,bh Zo];rfl
   rw[<-cv _ Zo]at dU
   have eO:bj X h j cd (ba+1):=⟨yc.le,λe I=>by rw[cv e Zo];exact yc.ac e I⟩
   have:=fin cd (ba+1) 2 dJ _ Zo eO kU dU rfl rfl rfl rfl rfl rfl rfl
   refine hR ⟨?_⟩
   exact this
  ·simp only[lM,Z8,ZB]
   have:=fin bL (ba+1) 1 dJ _ Zo yc eN dU rfl rfl rfl rfl rfl rfl rfl
   refine hR ⟨?_⟩
   refine hR ⟨?_⟩
   refine hR ⟨?_⟩
   exact this
end
def DE(s:bx)(i:Nat):Option Tok:=
 let d:=(s.drop i).takeWhile iz
 if (kp d).2≠0\/20<d.length then none
 else
  let SK:=(s.drop (i+d.length)).takeWhile iL
  if SK=[]then some ⟨4,d,0,(kp d).1,dJ⟩
  else match la SK with
   |some t=>if !t.b&&uN t (kp d).1 then some ⟨5,d++SK,0,(kp d).1,t⟩else none
   |none=>none
def S7:∀{w:bx}{t:es},la w=some t->kA t=true:=by
 intro w t a
 cases w with
 |nil=>cases a
 |cons c l=>
  by_cases ai:c::l=[98,111,111,108]
  ·rw[NT,Zq ai]at a
   cases a
   rfl
  ·obtain⟨_,n,R,U,_,rfl⟩:=Ka a ai
   simp[kA];omega
section
variable{X:ck}{h T aX aJ:S ak}{j ao aL a6 f9:Nat}{s:bx}{i:Nat}
def asG(ax:is X)(bS:lw X)(Z:mP X h f9 s i)(ai:∀c∈s,c<256)(aK:(q X).a7<=j)(IV:f9<j):
 aR X 113 [.ptr f9 0] h j (λad T ao=>(∃D,ad= .tuple [.agg (b9 D), .bool (DE s i).isSome]/\∀x,DE s i=some x->D=x)/\bj X h j T ao) (λ_ _ _=>False):=by
 refine c4 (aeZ X) (ax.none _ _ rfl) ?_
 rw[ae0]
 unfold TB
 have dk:=Z.dk
 have hT:=Z.fM
 have lk:=Z.le
 have aya:=Z.many
 obtain⟨cB,cu,ee⟩:=Sd Z ai i iz (λc a=>by simp[iL,a])
 have JM:=D4 iz (s.drop i)
 rw[Yw]at JM
 have sc:∀cR,mP X (bm X h j cR) f9 s i:=λcR=>Z.ac (aE aK Zo)
 refine ci @dk ⟨?_⟩
 refine(NF ax.todv (aui ax.todv) (sc _) Z.le).Zm ?_
 rintro ad aJ a6 ⟨rfl,rfl,rfl⟩
 generalize jf:DE s i=N
 unfold DE at jf
 simp only[]at jf
 generalize (s.drop i).takeWhile iz=d at*
 refine cH ⟨?_⟩
 refine e8 (λaX=>aa X aX j=some (.cells (S.ofList [.Z 0, .str [], .Z 0, .int .u64 0, .bool false, .bool false, .Z 0] 0 .nil) 7 .own)/\bj X h j aX (j+1)) ⟨by simp(disch:=omega) only[aE,bh]<;>rfl,dM⟩ ?_
 rintro aX ⟨b3,bU⟩
 refine(ath ax bS cB cu Zo).Zm ?_
 rintro ad aY ba ⟨⟨F,rfl,bt⟩,ca⟩
 have ie:=ca.le
 have r0:=bU.trans ca
 have cQ:aa X aY j=some (.cells (S.ofList [.Z 0, .str [], .Z 0, .int .u64 0, .bool false, .bool false, .Z 0] 0 .nil) 7 .own):=by rw[ca.ac _ Zo];exact b3
 have yt:=Z.ac (r0.ac f9 IV)
 have ayS:H.agg [.Z 0, .str [], .Z 0, .int .u64 0, .bool false, .bool false, .Z 0]= .agg (b9 g0):=rfl
 rcases bt with ⟨cj,rfl⟩|⟨cj,b,rfl⟩
 ·by_cases fB:20<d.length
  ·rw[Zq (.inr fB)]at jf
   subst jf
   have cT:decide ((20:Int)<(d.length:Int))=true:=by simp only[Zg];omega
   refine cM @Dy @cT ⟨?_⟩
   exact⟨⟨g0,rfl,λx a=>by cases a⟩,bj.set r0 Zo aK Zo⟩
  have cT:decide ((20:Int)<(d.length:Int))=false:=by simp only[Zb];omega
  rw[Zh (by rintro(a|a);exact a cj;exact fB a)]at jf
  have gF:=yt.dk
  have bB:aA .add (.Z (i:Int)) (.Z (d.length:Int))=some (.Z ((i+d.length:Nat):Int)):=by rw[eI Zo Zo];rfl
  refine gp @Dy @cT @gF @bB ⟨?_⟩
  refine(NF ax.todv (adG ax.todv) yt Zo).Zm ?_
  rintro ad bw c7 ⟨rfl,rfl,rfl⟩
  obtain⟨fy,hu,xh⟩:=Sd yt ai (i+d.length) iL (λ_ a=>a)
  generalize (s.drop (i+d.length)).takeWhile iL=w at*
  by_cases bP:w=[]
  ·have cJ:decide (w=[])=true:=by simp[bP]
   rw[Zq bP]at jf
   subst jf
   refine ci @cJ ⟨?_⟩
   exact⟨⟨⟨4,d,0,(kp d).1,dJ⟩,rfl,λx a=>by cases a;rfl⟩,bj.set r0 Zo aK Zo⟩
  have cJ:decide (w=[])=false:=by simp[bP]
  rw[Zh bP]at jf
  refine ci @cJ ⟨?_⟩
  refine(aea ax bS fy hu xh Zo).Zm ?_
  rintro ad bL cb ⟨rfl,dw⟩
  have hV:=dw.le
  have fA:aa X bL j=some (.cells (S.ofList [.Z 0, .str [], .Z 0, .int .u64 0, .bool false, .bool false, .Z 0] 0 .nil) 7 .own):=by rw[dw.ac _ Zo];exact cQ
  have CB:=r0.trans dw
  generalize be:(la w).getD dJ=t
  have FJ:eC t=[.bool t.b, .bool t.s, .Z t.w]:=rfl
  rw[FJ]
  refine hR ⟨?_⟩
  refine hR ⟨?_⟩
  refine hR ⟨?_⟩
  refine hR ⟨?_⟩
  refine hR ⟨?_⟩
  generalize f8:bm X _ cb _=cd
  have dU:aa X cd cb=some (.cells (S.ofList [.bool t.b, .bool t.s, .Z t.w] 0 .nil) 3 .own):=by rw[<-f8,bh Zo];rfl
  have eN:aa X cd j=some (.cells (S.ofList [.Z 0, .str [], .Z 0, .int .u64 0, .bool false, .bool false, .Z 0] 0 .nil) 7 .own):=by rw[<-f8];simp(disch:=omega) only[aE];exact fA
  have eO:bj X h j cd (cb+1):=CB.trans (by rw[<-f8];exact dM)
  clear f8 fA cQ b3
  have sV:∀h,dj X h .add 9 false (.str d) (.str w)=some (.str (d++w)):=λh=>by
   have:Nat.ble (d.length+w.length) 1000000000=true:=lg Zo
   simp only[dj,Am,this,e2]
  have SU:∀ah:Prop,ah->gI (.str (d++w)) (some (.str (d++w))) ah:=λah a=>gQ (by simp[H.same,Dx]) a
  have J0:∀ah:Prop,ah->gI (.agg [.bool t.b, .bool t.s, .Z t.w]) (some (.agg [.bool t.b, .bool t.s, .Z t.w])) ah:=λah a=>gQ (by simp[H.same,nw,o7]) a
  have fC:b9 ⟨5,d++w,0,(kp d).1,t⟩=[.Z 5, .str (d++w), .Z 0, .int .u64 (kp d).1, .bool t.b, .bool t.s, .Z t.w]:=rfl
  cases r8:la w with
  |none=>
   rw[r8]at jf
   simp only[]at jf
   subst jf
   simp only[ZZ]
   refine cM @sV (bJ dU) ⟨?_⟩
   refine SU _ ?_
   refine cM @sV (bJ dU) ⟨?_⟩
   refine J0 _ ?_
   refine cH ⟨?_⟩
   refine⟨⟨⟨5,d++w,0,(kp d).1,t⟩, ?_,λx a=>by cases a⟩,bj.set eO Zo aK Zo⟩
   rw[fC]
  |some hb=>
   have ME:hb=t:=by rw[r8]at be;exact be
   subst ME
   have aoR:=S7 r8
   rw[r8]at jf
   simp only[]at jf
   cases mx:hb.b with
   |true=>
    rw[mx]at jf dU fC J0
    simp only[Yi,Bool.false_and,Zv,ZB]at jf
    subst jf
    simp only[ZZ,Z5]
    refine cM @sV (bJ dU) ⟨?_⟩
    refine SU _ ?_
    refine cM @sV (bJ dU) ⟨?_⟩
    refine J0 _ ?_
    refine cH ⟨?_⟩
    refine⟨⟨⟨5,d++w,0,(kp d).1,hb⟩, ?_,λx a=>by cases a⟩,bj.set eO Zo aK Zo⟩
    rw[fC]
   |false=>
    rw[mx]at jf dU fC J0
    simp only[Yh,ze]at jf
    simp only[Z5]
    refine cM @sV (bJ dU) ⟨?_⟩
    have az:=ao8 (j:=cb+1+19) (h:=cd) ax.todv hb aoR ((kp d).1:Int) Zo
    have ap0:eC hb=[.bool false, .bool hb.s, .Z hb.w]:=by rw[<-mx];rfl
    rw[ap0]at az
    refine az.Zm ?_
    rintro ad cr d9 ⟨rfl,eF⟩
    have mX:=eF.le
    have hf:aa X cr cb=some (.cells (S.ofList [.bool false, .bool hb.s, .Z hb.w] 0 .nil) 3 .own):=by rw[eF.ac _ Zo];exact dU
    have kU:aa X cr j=some (.cells (S.ofList [.Z 0, .str [], .Z 0, .int .u64 0, .bool false, .bool false, .Z 0] 0 .nil) 7 .own):=by rw[eF.ac _ Zo];exact eN
    have LC:bj X h j cr d9:=⟨by have:=eO.le;omega,λe I=>by rw[eF.ac e (by have:=eO.le;omega)];exact eO.ac e I⟩
    have anr:N.isSome=uN hb ((kp d).1:Int):=by
     rw[<-jf];cases uN hb ((kp d).1:Int)<;>rfl
    rw[anr]
    refine ci @sV ⟨?_⟩
    refine SU _ ?_
    refine ci (bJ hf) ⟨?_⟩
    refine J0 _ ?_
    refine cH ⟨?_⟩
    refine⟨⟨⟨5,d++w,0,(kp d).1,hb⟩, ?_,λx a=> ?_⟩,bj.set LC Zo aK Zo⟩
    ·rw[fC]
    ·rw[<-jf]at a
     split at a
     ·cases a;rfl
     ·cases a
 ·rw[Zq (.inl cj)]at jf
  subst jf
  refine ci @acF ⟨?_⟩
  exact⟨⟨g0,rfl,λx a=>by cases a⟩,bj.set r0 Zo aK Zo⟩
end
def yZ:List bx:=[[45,62],[60,60],[62,62],[60,61],[62,61],[60,62],[40],[41],[44],[59],[58],[61],[60],[62],[43],[45],[42]]
structure Oh(X:ck):Prop where
 at_:∀h,b6 X h 17 (.ptr 1 0)=some (.agg (yZ.map H.str))
def Ij(s p:bx):Bool:=decide (p.length<=s.length/\s.take p.length=p)
def vx(s:bx)(i:Nat):Option bx:=yZ.find? (Ij (s.drop i))
def DV(p:bx):Tok:=⟨6,p,0,0,dJ⟩
def Xd{α:Type}(p:α->Bool):∀(l:List α) (Y:Nat),(∀D<Y,∀x,l[D]? =some x->p x=false)->l.find? p=(l.drop Y).find? p:=by
 intro l Y
 induction Y with
 |zero=>intro _;rfl
 |succ Y al=>
  intro a
  rw[al λD aF=>a D Zo]
  by_cases bH:Y<l.length
  ·rw[Zr bH,zh]
   have:=a Y Zo l[Y] (Ze bH)
   rw[this]
  ·rw[ZE Zo,ZE Zo]
section
variable{X:ck}{h T aX aJ:S ak}{j ao aL a6 f9:Nat}{s:bx}{i:Nat}
def auS(ax:is X)(eK:Oh X)(Z:mP X h f9 s i)(aK:(q X).a7<=j)(IV:f9<j):
 aR X 111 [.ptr f9 0] h j (λad T ao=>ad= .tuple [.agg (b9 (match vx s i with|some p=>DV p|none=>g0)), .bool (vx s i).isSome]/\bj X h j T ao) (λ_ _ _=>False):=by
 refine c4 (aeV X) (ax.none _ _ rfl) ?_
 rw[aeW]
 unfold Tz
 have hT:=Z.fM
 have j7:kd (.str s) (some (.Z (i:Int))) none=some (.str (s.drop i)):=NK .i64 Z.le
 have b0:=eK.at_
 refine ci @b0 ⟨?_⟩
 have b3:aa X (bm X h j (some (.cells (S.ofList [.Z 0, .str [], .Z 0, .int .u64 0, .bool false, .bool false, .Z 0] 0 .nil) 7 .own))) j=some (.cells (S.ofList [.Z 0, .str [], .Z 0, .int .u64 0, .bool false, .bool false, .Z 0] 0 .nil) 7 .own):=bh aK
 have bU:bj X h j (bm X h j (some (.cells (S.ofList [.Z 0, .str [], .Z 0, .int .u64 0, .bool false, .bool false, .Z 0] 0 .nil) 7 .own))) (j+1):=dM
 refine fD (λm K T aS=>∃(Y:Nat),K.g 0=some (.ptr f9 0)/\K.g 2=some (.ptr j 0)/\K.g 6=some (.agg (yZ.map H.str))/\K.g 7=some (.Z (Y:Int))/\Y+m=17/\aa X T j=some (.cells (S.ofList [.Z 0, .str [], .Z 0, .int .u64 0, .bool false, .bool false, .Z 0] 0 .nil) 7 .own)/\bj X h j T aS/\j+1<=aS/\∀D<Y,∀x,yZ[D]? =some x->Ij (s.drop i) x=false)
  17 ⟨0,bn,bn,bn,fN,Zo,b3,bU,Zi _,λD aF=>Zo⟩ ?_
 clear b3 bU
 rintro m K aJ a6 ⟨Y,t0,d3,f3,gu,bH,b2,bE,kZ,mY⟩
 have g4:=Z.ac (bE.ac f9 IV)
 have d7:=g4.d7
 have dk:=g4.dk
 cases m with
 |zero=>
  have d:decide ((Y:Int)<17)=false:=by simp only[Zb];omega
  have ce:vx s i=none:=by
   unfold vx
   rw[Xd _ _ Y mY,show yZ.drop Y=[] from ZE (by show 17<=Y;omega)]
   rfl
  rw[ce]
  refine eu @gu @d @d3 ⟨?_⟩
  exact⟨rfl,bj.set bE Zo aK Zo⟩
 |succ m=>
  have d:decide ((Y:Int)<17)=true:=by simp only[Zg];omega
  have bB:aA .add (.Z (Y:Int)) (.Z 1)=some (.Z ((Y+1:Nat):Int)):=by rw[eI Zo Zo];rfl
  obtain⟨p,ay⟩:∃p,yZ[Y]? =some p:=⟨_,Ze (by show Y<17;omega)⟩
  have d2:tt false 17 1 (.agg (yZ.map H.str)) (.Z (Y:Int))=some (.str p):=by
   have:Nat.blt Y 17=true:=by simp[Nat.blt];omega
   simp only[tt,rk,this,e2,jK,pE,Yj,Zx,ay];rfl
  refine ev @gu @f3 @t0 @d @d2 @d7 (Za @dk @j7) ⟨?_⟩
  refine(adl ax.todv (s.drop i) p).Zm ?_
  rintro ad aY ba ⟨rfl,rfl,rfl⟩
  have n2:decide (p.length<=(s.drop i).length/\(s.drop i).take p.length=p)=Ij (s.drop i) p:=rfl
  rw[n2]
  cases gb:Ij (s.drop i) p with
  |true=>
   have ce:vx s i=some p:=by
    unfold vx
    obtain⟨ag,I⟩:=Zc.1 ay
    have aH:yZ.drop Y=p::yZ.drop (Y+1):=by rw[Zr ag,I]
    rw[Xd _ _ Y mY,aH,zh,gb]
   rw[ce]
   refine ci @d3 ⟨?_⟩
   exact⟨rfl,bj.set bE Zo aK Zo⟩
  |false=>
   refine cM @gu @bB ⟨?_⟩
   refine⟨m,Zo,Y+1,a1 t0,a1 d3,a1 f3,bn,Zo,b2,⟨Zo,bE.ac⟩,Zo,λD aF x ag=> ?_⟩
   by_cases Mb:D=Y
   ·subst Mb;rw[ay]at ag;cases ag;exact gb
   ·exact mY D Zo x ag
end
def xq(s:bx)(i:Nat):Option Tok:=match s[i]? with
 |none=>none
 |some c=>if iz c then DE s i else if qk c then(if (tA s i).2 then some (tA s i).1 else none)else(vx s i).map DV
def lZ(x:Tok)(i:Nat):Tok:=⟨x.kind,x.text,i,x.n,x.ty⟩
def sH(s:bx):Nat->List Tok->Nat->Option (Except Int (List Tok))
 |0,_,_=>none
 |n+1,aU,i=>if i<s.length then match xq s i with
   |none=>some (.error i)
   |some x=>sH s n (aU++[lZ x i]) (nK s s.length (i+x.text.length))
  else some (.ok (aU++[⟨7,[],i,0,dJ⟩]))
def OQ(s:bx):∀(n i:Nat),i<=nK s n i:=by
 intro n
 induction n with
 |zero=>intro i;exact Zi _
 |succ n al=>
  intro i
  rw[nK]
  split
  ·exact Zi _
  ·split
   ·exact ZA Zo (al (i+1))
   ·split
    ·exact ZA Zo (al _)
    ·exact Zi _
def S6{s:bx}{i:Nat}{x:Tok}(a:xq s i=some x):1<=x.text.length/\i+x.text.length<=s.length:=by
 unfold xq at a
 cases az:s[i]? with
 |none=>rw[az]at a;cases a
 |some c=>
  rw[az]at a
  simp only[]at a
  obtain⟨ag,I⟩:=Zc.1 az
  have aH:s.drop i=c::s.drop (i+1):=by rw[Zr ag,I]
  have aB:(s.drop i).length=s.length-i:=Yw
  split at a
  ·rename_i px
   have R:=D4 iz (s.drop i)
   have U:1<=((s.drop i).takeWhile iz).length:=by rw[aH,Yz,px];simp
   unfold DE at a
   simp only[]at a
   generalize (s.drop i).takeWhile iz=d at*
   split at a
   ·cases a
   ·have ar:=D4 iL (s.drop (i+d.length))
    rw[Yw]at ar
    split at a
    ·cases a;exact⟨U,by show i+d.length<=_;omega⟩
    ·split at a
     ·split at a
      ·cases a
       refine⟨?_, ?_⟩
       ·show 1<=(d++_).length;rw[ZP];omega
       ·show i+(d++_).length<=_;rw[ZP];omega
      ·cases a
     ·cases a
  ·split at a
   ·rename_i yi
    have R:=D4 iL (s.drop i)
    have U:1<=((s.drop i).takeWhile iL).length:=by rw[aH,Yz,show iL c=true from by simp[iL,yi]];simp
    split at a
    ·cases a
     exact⟨U,by show i+((s.drop i).takeWhile iL).length<=_;omega⟩
    ·cases a
   ·simp only[Yn]at a
    obtain⟨p,R,rfl⟩:=a
    have U:=List.find?_some R
    have ar:=List.mem_of_find?_eq_some R
    simp[Ij]at U
    refine⟨?_, ?_⟩
    ·show 1<=p.length
     revert ar
     clear R U
     revert p
     decide
    ·show i+p.length<=_;omega
def d5.narrow{C:aW}{h:S ak}{P:Nat->Prop}{b bl:Nat}{a8:H}{bC:List (List H)}(a:d5 C h P b a8 bl bC):d5 C h (λe=>e=b) b a8 bl bC:=⟨λ_=>rfl,a.many,a.wide,a.len,a.gi,a.cell⟩
section
variable{X:ck}{h T aX aJ:S ak}{j ao aL a6 f9:Nat}{s:bx}{i:Nat}
structure G3(X:ck):Prop where
 err:lw X
 res:Kt X
 sig:Oh X
def Vx(X:ck)(j:Nat)(r:Except Int (List Tok))(ad:H)(T:S ak)(ao:Nat):Prop:=match r with
 | .error J=>ad= .tuple [.aT, .agg [.Z 20, .Z J]]
 | .ok aU=>∃aq bK,ad= .tuple [aq, .agg [.Z 0, .Z 0]]/\d5 X T (λe=>e=bK) bK aq 7 (aU.map b9)/\j<=bK/\bK<ao
def ai7(ax:is X)(eK:G3 X)(aI:s.length<=65536)(ai:∀c∈s,c<256)(aK:(q X).a7<=j){a0:H}(aB:d8 a0=some (.Z (s.length:Int)))(CL:∀T aS,bj X h j T aS->As X T a0=some (.str s))
 {r:Except Int (List Tok)}(Z:sH s (s.length+1) [] (nK s s.length 0)=some r):
 aR X 66 [a0] h j (λad T ao=>Vx X j r ad T ao/\bj X h j T ao) (λ_ _ _=>False):=by
 refine c4 (aia X) (ax.none _ _ rfl) ?_
 rw[aib]
 unfold Vf
 have nN:decide ((65536:Int)<(s.length:Int))=false:=by simp only[Zb];omega
 have th:=CL (bm X h j (some (.cells (S.ofList [.Z 0, .Z 0] 0 .nil) [H.Z 0, .Z 0].length .own))) (j+1) dM
 refine cM @aB @nN ⟨?_⟩
 refine fE th ?_
 refine cH ⟨?_⟩
 refine e8 (λaX=>aa X aX j=some (.cells (S.ofList [.Z 0, .Z 0] 0 .nil) 2 .own)/\aa X aX (j+1)=some (.cells (S.ofList [.str s, .Z ((0:Nat):Int)] 0 .nil) 2 .own)/\bj X h j aX (j+1+1)) ⟨by simp(disch:=omega) only[aE,bh]<;>rfl,by rw[bh Zo];rfl,dM⟩ ?_
 rintro aX ⟨b3,b2,bU⟩
 have sc:mP X aX (j+1) s 0:=⟨b2,Zo,aI,Zo⟩
 refine(V5 ax sc ai Zo Zo).Zm ?_
 rintro ad aJ a6 ⟨g4,dc⟩
 have f2:=dc.le
 have cQ:aa X aJ j=some (.cells (S.ofList [.Z 0, .Z 0] 0 .nil) 2 .own):=by rw[dc.ac _ Zo Zs];exact b3
 have bE:bj X h j aJ a6:=⟨Zo,λe I=>by rw[dc.ac e Zo (by simp;omega)];exact bU.ac e I⟩
 refine gM ?_
 refine fD (λm K T aS=>∃(a8:H) (aU:List Tok) (cK:List Nat) (Y:Nat),K.g 3=some (.ptr j 0)/\K.g 4=some (.ptr (j+1) 0)/\K.g 5=some a8/\aa X T j=some (.cells (S.ofList [.Z 0, .Z 0] 0 .nil) 2 .own)/\mP X T (j+1) s Y/\gD X T a8 7 (aU.map b9).flatten cK/\(∀e∈cK,j+2<=e/\e<aS)/\bj X h j T aS/\j+2<=aS/\aU.length<=Y/\sH s m aU Y=some r)
  (s.length+1) ⟨.aT,[],[],_,bn,bn,bn,cQ,g4, .inl (.inl ⟨rfl,rfl,rfl⟩),Zs,bE,Zo,Zs,Z⟩ ?_
 clear Z b3 b2 cQ sc g4 bU bE dc f2 th
 rintro m K aJ a6 ⟨a8,aU,cK,Y,t3,t4,t5,b2,g4,uP,np,bE,kZ,ayc,Z⟩
 have d7:=g4.d7
 have dk:=g4.dk
 have uF:=g4.le
 cases m with
 |zero=>cases Z
 |succ m=>
 rw[sH]at Z
 have aaF:∀r∈aU.map b9,r.length=7:=λr a=>by obtain⟨x,_,rfl⟩:=ZW.1 a;rfl
 have tl:=wy aaF
 rw[Zp]at tl
 have VP:∀(aY:S ak) (ba b:Nat) (x:Tok),(∀e∈cK,aa X aY e=aa X aJ e)->a6<=ba->aa X aY b=some (.cells (S.ofList (b9 x) 0 .nil) 7 .own)->
  ∃kq bw gw,iQ X aY ba 7 a8 (.slice b 0 1 1)=some (.fv kq bw (ba+1))/\ks X bw kq 7 ((aU++[x]).map b9).flatten gw/\(∀e∈gw,e=ba\/e∈cK)/\∀e,e≠ba->e∉cK->aa X bw e=aa X aY e:=by
  intro aY ba b x aF wX LN
  have j8:k8 X aY 7 (.slice b 0 1 1)=some (1,b9 x):=rs LN (n4 _) rfl _
  obtain⟨kq,bw,gw,R,U,ar,aO⟩:=(uP.ac aF).append (j:=ba) Zd j8 rfl Zd rfl (by rw[tl,show(b9 x).length=7 from rfl];omega) Zo (λe I=>by have:=np e I;omega)
  refine⟨kq,bw,gw,R, ?_,ar,aO⟩
  rw[Yv,zd,Yb,List.map_nil,Yp,List.flatten_nil,Yq]
  exact U
 by_cases bH:Y<s.length
 ·have cT:decide ((Y:Int)<(s.length:Int))=true:=by simp only[Zg];omega
  rw[Zq bH]at Z
  obtain⟨c,az⟩:∃c,s[Y]? =some c:=⟨_,Ze bH⟩
  have d2:=Bg .i64 az
  have LU:=ai c (Zj az)
  refine g7 @t4 @d7 (Za @dk (Za @cT @d2)) ⟨?_⟩
  refine gM ?_
  refine g7 @t4 @d7 (Za @dk (Za @cT @d2)) ⟨?_⟩
  refine gM ?_
  refine g7 @t4 @d7 (Za @dk (Za @cT @d2)) ⟨?_⟩
  have rd:∀(D:Nat),(iz c=true->D=113)->(iz c=false->qk c=true->D=115)->(iz c=false->qk c=false->D=111)->∀Gm,a6<=Gm->
   aR X D [.ptr (j+1) 0] aJ Gm (λad T aS=>(∃x,ad= .tuple [.agg (b9 x), .bool (xq s Y).isSome]/\∀e,xq s Y=some e->x=e)/\bj X aJ Gm T aS) (λ_ _ _=>False):=by
   intro D bZ cw c0 Gm axX
   unfold xq
   rw[az]
   simp only[]
   cases px:iz c with
   |true=>
    rw[bZ px]
    simp only[ZD]
    exact asG ax eK.err g4 ai Zo Zo
   |false=>
    simp only[Zv,ZB]
    cases yi:qk c with
    |true=>
     rw[cw px yi]
     simp only[ZD]
     refine(awt ax eK.err eK.res g4 ai Zo Zo).Zm ?_
     rintro ad T aS ⟨rfl,bS⟩
     refine⟨⟨(tA s Y).1, ?_,λe a=> ?_⟩,bS⟩
     ·cases(tA s Y).2<;>rfl
     ·split at a
      ·cases a;rfl
      ·cases a
    |false=>
     rw[c0 px yi]
     simp only[Zv,ZB]
     refine(auS ax eK.sig g4 Zo Zo).Zm ?_
     rintro ad T aS ⟨rfl,bS⟩
     refine⟨⟨(match vx s Y with|some p=>DV p|none=>g0), ?_,λe a=> ?_⟩,bS⟩
     ·cases vx s Y<;>rfl
     ·cases cl:vx s Y with
      |none=>rw[cl]at a;cases a
      |some p=>rw[cl]at a;cases a;rfl
  refine ka (λc1 T aS=>∃D,c1.g 3=some (.ptr j 0)/\c1.g 4=some (.ptr (j+1) 0)/\c1.g 5=some a8/\c1.g 6=some (.func (.func D) [.ptr (j+1) 0] [])/\T=aJ/\a6<=aS/\(iz c=true->D=113)/\(iz c=false->qk c=true->D=115)/\(iz c=false->qk c=false->D=111)) (λayr QJ=> ?_) ?_
  ·refine(Pb ax.todv c).Zm ?_
   rintro ad aY ba ⟨rfl,rfl,rfl⟩
   cases px:iz c with
   |true=>
    refine ci @t4 ⟨?_⟩
    exact QJ _ _ _ ⟨113,a1 t3,a1 t4,a1 t5,bn,rfl,Zo,λ_=>rfl,(λa=>absurd a (by simp[px])),(λa=>absurd a (by simp[px]))⟩
   |false=>
    refine ci @t4 ⟨?_⟩
    refine(V2 ax.todv c).Zm ?_
    rintro ad aY ba ⟨rfl,rfl,rfl⟩
    cases yi:qk c with
    |true=>
     refine ci @t4 ⟨?_⟩
     exact QJ _ _ _ ⟨115,a1 t3,a1 t4,a1 t5,bn,rfl,Zo,(λa=>absurd a (by simp[px])),λ_ _=>rfl,(λ_ a=>absurd a (by simp[yi]))⟩
    |false=>
     refine ci @t4 ⟨?_⟩
     exact QJ _ _ _ ⟨111,a1 t3,a1 t4,a1 t5,bn,rfl,Zo,(λa=>absurd a (by simp[px])),(λ_ a=>absurd a (by simp[yi])),λ_ _=>rfl⟩
  clear t3 t4 t5
  rintro awH aY ba ⟨D,t3,t4,t5,f3,rfl,wX,bZ,cw,c0⟩
  refine ci @f3 ⟨?_⟩
  refine(rd D bZ cw c0 _ wX).Zm ?_
  clear rd bZ cw c0 f3
  rintro ad bw c7 ⟨⟨x,rfl,ag⟩,dm⟩
  have ji:=dm.le
  have d1:aa X bw j=some (.cells (S.ofList [.Z 0, .Z 0] 0 .nil) 2 .own):=by rw[dm.ac _ Zo];exact b2
  have Mt:=g4.ac (dm.ac (j+1) Zo)
  have E7:bj X h j bw c7:=bE.trans ⟨Zo,λe I=>dm.ac e Zo⟩
  have ap2:b9 x=[.Z x.kind, .str x.text, .Z x.at_, .int .u64 x.n, .bool x.ty.b, .bool x.ty.s, .Z x.ty.w]:=rfl
  rw[ap2]
  refine hR ⟨?_⟩
  refine hR ⟨?_⟩
  refine hR ⟨?_⟩
  refine hR ⟨?_⟩
  refine hR ⟨?_⟩
  generalize kV:bm X _ c7 _=bL
  have bN:∀e,e<c7->aa X bL e=aa X bw e:=λe I=>by rw[<-kV];simp(disch:=omega) only[aE]
  have fA:aa X bL c7=some (.cells (S.ofList (b9 x) 0 .nil) 7 .own):=by rw[<-kV,bh Zo];rfl
  have dU:=d1
  rw[<-bN _ Zo]at dU
  have IQ:=Mt.ac (bN (j+1) Zo)
  have dw:bj X h j bL (c7+1):=⟨Zo,λe I=>by rw[bN e Zo];exact E7.ac e I⟩
  clear kV d1
  have jY:=IQ.dk
  cases oN:xq s Y with
  |none=>
   rw[oN]at Z
   simp only[Zf]at Z
   subst Z
   simp only[ZZ]
   refine eu @t4 @t3 @jY ⟨?_⟩
   exact⟨rfl,bj.set dw (Zi _) aK Zo⟩
  |some e=>
   have:=ag e oN
   subst this
   rw[oN]at Z
   simp only[]at Z
   obtain⟨Dd,De⟩:=S6 oN
   simp only[Z5]
   simp only[Yi]
   refine eu @t4 @t3 @jY ⟨?_⟩
   generalize f8:bm X bL c7 _=cd
   have cv:∀e,e≠c7->aa X cd e=aa X bL e:=λe I=>by rw[<-f8,aE Zo I]
   have eN:aa X cd c7=some (.cells (dT (S.ofList (b9 x) 0 .nil) 2 [.Z (Y:Int)]) 7 .own):=by rw[<-f8,bh Zo];rfl
   have ns:=IQ.ac (cv (j+1) Zo)
   have eO:bj X h j cd (c7+1):=⟨Zo,λe I=>by rw[cv e Zo];exact dw.ac e I⟩
   have hf:=dU
   rw[<-cv _ Zo]at hf
   have dQ:∀e∈cK,aa X cd e=aa X aY e:=λe I=>by have:=np e I;rw[cv e Zo,bN e Zo,dm.ac e Zo]
   clear f8 fA dU IQ dw jY cv bN Mt E7
   have eh:am X cd (.ptr c7 1)=some (.str x.text):=by rw[bJ eN];rfl
   have bB:aA .add (.Z (Y:Int)) (.Z (x.text.length:Int))=some (.Z ((Y+x.text.length:Nat):Int)):=by rw[eI Zo Zo];rfl
   refine s3 @eh ⟨?_⟩
   refine hR ⟨?_⟩
   refine s3 @bB ⟨?_⟩
   refine hR ⟨?_⟩
   refine hR ⟨?_⟩
   refine fE (hO (D:=1) (b:=j+1) (W:=1) (n:=2) ns.g Zo rfl Zd Zd rfl) ?_
   generalize lI:bm X cd (j+1) _=cr
   have dP:∀e,e≠j+1->aa X cr e=aa X cd e:=λe I=>by rw[<-lI,aE Zo I]
   have apx:mP X cr (j+1) s (Y+x.text.length):=⟨by rw[<-lI,bh Zo];rfl,De,aI,Zo⟩
   have eF:bj X h j cr (c7+1):=⟨Zo,λe I=>by rw[dP e Zo];exact eO.ac e I⟩
   rw[<-dP _ Zo]at eN hf
   have gm:∀e∈cK,aa X cr e=aa X aY e:=λe I=>by have:=np e I;rw[dP e Zo];exact dQ e I
   clear lI dP ns eO dQ eh
   have fO:am X cr (.ptr c7 0)=some (.Z x.kind):=by rw[bJ eN];rfl
   have eh:am X cr (.ptr c7 1)=some (.str x.text):=by rw[bJ eN];rfl
   have c5:am X cr (.ptr c7 2)=some (.Z (Y:Int)):=by rw[bJ eN];rfl
   have e5:am X cr (.ptr c7 3)=some (.int .u64 x.n):=by rw[bJ eN];rfl
   have gW:am X cr (.ptr c7 4)=some (.bool x.ty.b):=by rw[bJ eN];rfl
   have gB:am X cr (.ptr c7 5)=some (.bool x.ty.s):=by rw[bJ eN];rfl
   have mC:am X cr (.ptr c7 6)=some (.Z x.ty.w):=by rw[bJ eN];rfl
   refine ev @fO @eh @c5 @e5 @gW @gB (Za @mC @t5) ⟨?_⟩
   obtain⟨kq,dH,gw,ic,Rm,Il,wU⟩:=VP (bm X cr (c7+1+11) (some (.cells (S.ofList (b9 (lZ x Y)) 0 .nil) 7 .own))) (c7+1+11+1) (c7+1+11) (lZ x Y) (λe I=>by have:=np e I;rw[aE Zo Zo];exact gm e I) Zo (bh Zo)
   refine kG ic ?_
   have dW:∀e,e<j+2->e∉cK:=λe R U=>by have:=np e U;omega
   have ht:∀e,e<j+2->aa X dH e=aa X cr e:=λe I=>by rw[wU e Zo (dW e I),aE Zo Zo]
   have apy:=apx.ac (ht (j+1) Zo)
   rw[<-ht _ Zo]at hf
   have hM:bj X h j dH (c7+1+11+1+1):=⟨Zo,λe I=>by rw[ht e Zo];exact eF.ac e I⟩
   have ms:∀e∈gw,j+2<=e/\e<c7+1+11+1+1:=λe I=>by
    rcases Il e I with rfl|a
    ·omega
    ·have:=np e a;omega
   refine ci @t4 ⟨?_⟩
   refine(V5 ax apy ai Zo Zo).Zm ?_
   rintro ad dY iX ⟨qh,g3⟩
   have tm:=g3.le
   refine⟨m,Zo,kq,aU++[lZ x Y],gw,_,a1 t3,a1 t4,bn,by rw[g3.ac _ Zo Zs];exact hf,qh, .inl (Rm.ac λe I=>g3.ac e (ms e I).2 (by have:=ms e I;simp;omega)),λe I=>by have:=ms e I;omega,⟨Zo,λe I=>by rw[g3.ac e Zo (by simp;omega)];exact hM.ac e I⟩,Zo, ?_,Z⟩
   have:=OQ s s.length (Y+x.text.length)
   simp only[ZP,ZC,ZO]
   omega
 ·have cT:decide ((Y:Int)<(s.length:Int))=false:=by simp only[Zb];omega
  rw[Zh bH]at Z
  cases Z
  refine f7 @t4 @d7 @dk @cT @t5 ⟨?_⟩
  obtain⟨kq,bw,gw,ic,se,ut,f1⟩:=VP (bm X aJ (a6+10) (some (.cells (S.ofList (b9 ⟨7,[],Y,0,dJ⟩) 0 .nil) 7 .own))) (a6+10+1) (a6+10) ⟨7,[],Y,0,dJ⟩ (λe I=>aE Zo (by have:=np e I;omega)) Zo (bh Zo)
  refine kG ic ?_
  have dW:∀e,e<j+2->e∉cK:=λe R U=>by have:=np e U;omega
  have d1:aa X bw j=some (.cells (S.ofList [.Z 0, .Z 0] 0 .nil) 2 .own):=by rw[f1 _ Zo (dW _ Zo),aE Zo Zo];exact b2
  have dm:bj X h j bw (a6+10+1+1):=⟨Zo,λe I=>by rw[f1 _ Zo (dW _ Zo),aE Zo Zo];exact bE.ac e I⟩
  clear ic f1
  refine ci @t3 ⟨?_⟩
  have aoI:∀r∈(aU++[(⟨7,[],Y,0,dJ⟩:Tok)]).map b9,r.length=7:=λr a=>by obtain⟨x,_,rfl⟩:=ZW.1 a;rfl
  generalize kV:bm X bw j _=bL
  have bN:∀e,e≠j->aa X bL e=aa X bw e:=λe I=>by rw[<-kV,aE Zo I]
  have LO:∀e∈gw,j+2<=e/\e<a6+10+1+1:=λe I=>by
   rcases ut e I with rfl|a
   ·omega
   ·have:=np e a;omega
  obtain⟨bK,cz⟩:=(se.ac (T:=bL) (λe I=>bN e (by have:=LO e I;omega))).tG Zd aoI (by simp;omega) (P:=λe=>j<=e/\e<a6+10+1+1) (λe I=>by have:=LO e I;omega)
  have jz:=cz.ai Zs
  exact⟨⟨kq,bK,rfl,d5.narrow cz,jz.1,jz.2⟩,⟨Zo,λe I=>by rw[bN e Zo];exact dm.ac e I⟩⟩
end
section
variable{X:ck}{h T aX aJ:S ak}{j ao aL a6 aG bK:Nat}{aU:List Tok}{i:Nat}
def R5(p:H):lz X h 23 p=am X h p:=Zk
def F7(p:H):lz X h 26 p=b6 X h 2 p:=Zk
def WW:dj X h .eql 20 true .nilIface .nilIface=some (.bool true):=Zk
def WV(D J:Int):dj X h .eql 20 true (oz D J) .nilIface=some (.bool false):=Zk
def V7:∃fn c,(q X).P.funcs[67]? =some fn/\fn.body=some c:=Lg (Oq X)
def atX(ax:dv X){J b:H}{bs:Bool->S ak->Nat->Prop}(a:bs false h j):sZ X (.func 67) ([]++[J,b]) none h j bs:=by
 refine⟨ax.none _ _ rfl,V7,Lh (Oq X) ?_⟩
 show x2 X 67 [J,b] none h j bs
 rw[Vg]
 unfold Oo
 show aQ _ _
 refine ci @WW ⟨?_⟩
 exact a
def atY(ax:dv X){J b:Nat}{D at_:Int}{dk dB:S H}{bs:Bool->S ak->Nat->Prop}(aK:(q X).a7<=J)(kZ:(q X).a7<=b)(q2:J≠b)(CI:J<j)(r1:b<j)(hg:aa X h J=some (.cells dk 1 .own))(oB:aa X h b=some (.cells dB 2 .own))
 (a:∀T aS,j<=aS->am X T (.ptr J 0)=some .cq->b6 X T 2 (.ptr b 0)=some (.agg [.Z D, .Z at_])->(∀e,e<j->e≠J->e≠b->aa X T e=aa X h e)->bs true T aS):sZ X (.func 67) ([]++[.ptr J 0, .ptr b 0]) (some (oz D at_)) h j bs:=by
 refine⟨ax.none _ _ rfl,V7,Lh (Oq X) ?_⟩
 show x2 X 67 [.ptr J 0, .ptr b 0] (some (oz D at_)) h j bs
 rw[Vg]
 unfold Oo
 show aQ _ _
 have OK:Ex 26 (.agg [.Z 0, .Z 0]) true (oz D at_)=some (.tuple [.agg [.Z D, .Z at_], .bool true]):=rQ _ _ _
 have DP:∀(K:dL) (n:Nat),(NJ K).g n=K.g n:=λ_ _=>rfl
 refine eu @WV @OK @DP ⟨?_⟩
 generalize en:bm X _ j _=aX
 have b3:aa X aX j=some (.cells (S.ofList [.Z D, .Z at_] 0 .nil) 2 .own):=by rw[<-en,bh Zo];rfl
 have R:∀e,e<j->aa X aX e=aa X h e:=λe I=>by rw[<-en];simp(disch:=omega) only[aE]
 rw[<-R J CI]at hg
 rw[<-R b r1]at oB
 clear en
 refine cM (bJ b3) @DP ⟨?_⟩
 refine gQ (by simp[H.same,nw,o7]) ?_
 generalize dE:bm X aX J _=aJ
 have b2:aa X aJ J=some (.cells (dT dk 0 [.cq]) 1 .own):=by rw[<-dE,bh aK];rfl
 have U:∀e,e≠J->aa X aJ e=aa X aX e:=λe I=>by rw[<-dE,aE aK I]
 rw[<-U b Zo]at oB
 clear dE
 refine s3 @DP ⟨?_⟩
 refine fE (hO (D:=2) (b:=b) (W:=0) (n:=2) oB kZ rfl Zd Zd rfl) ?_
 show bs true _ _
 refine a _ _ Zo ?_ ?_ (λe I Ru gc=> ?_)
 ·rw[bJ (by rw[aE kZ q2];exact b2),kg];rfl
 ·rw[nv,bJ (bh kZ),bJ (bh kZ),kg,kg];rfl
 ·rw[aE kZ gc,U e Ru,R e I]
def at9{ah:bG}{K:dL}{p an v w:H}(l4:K.bb=[])(U:K.g 2=some p)(ar:K.g 3=some an)(eh:am X h p=some v)(c5:b6 X h 2 an=some w)(a:ah (.tuple [v,w]) h j):GD X ah K h j:=by
 unfold GD
 rw[l4]
 show aj (K.g 2) (λp=>B (lz X h 23 p) λv=>aj (K.g 3) λp=>B (lz X h 26 p) λw=>ah (.tuple [v,w]) h j)
 rw[U,ar]
 refine lq ?_
 rw[R5,eh]
 refine lr ?_
 refine lq ?_
 rw[F7,c5]
 exact lr a
def aua{ah:bG}{K:dL}{p an v w J b:H}(ax:dv X)(l4:K.bb=[⟨.fn (.func 67) [J,b],[]⟩])(U:K.g 2=some p)(ar:K.g 3=some an)(eh:am X h p=some v)(c5:b6 X h 2 an=some w)(a:ah (.tuple [v,w]) h j):GD X ah K h j:=by
 unfold GD
 rw[l4]
 show sZ X (.func 67) ([]++[J,b]) none h j λ_ h j=>m6 X [.cell 2 23, .cell 3 26] ah K [] h j
 refine atX ax ?_
 show aj (K.g 2) (λp=>B (lz X h 23 p) λv=>aj (K.g 3) λp=>B (lz X h 26 p) λw=>ah (.tuple [v,w]) h j)
 rw[U,ar]
 refine lq ?_
 rw[R5,eh]
 refine lr ?_
 refine lq ?_
 rw[F7,c5]
 exact lr a
def ac4{ah aw:bG}{K:dL}{J b:Nat}{D at_:Int}{dk dB:S H}(ax:dv X)(l4:K.bb=[⟨.fn (.func 67) [.ptr J 0, .ptr b 0],[]⟩])(U:K.g 2=some (.ptr J 0))(ar:K.g 3=some (.ptr b 0))
 (aK:(q X).a7<=J)(kZ:(q X).a7<=b)(q2:J≠b)(CI:J<j)(r1:b<j)(hg:aa X h J=some (.cells dk 1 .own))(oB:aa X h b=some (.cells dB 2 .own))
 (a:∀T aS,j<=aS->(∀e,e<j->e≠J->e≠b->aa X T e=aa X h e)->ah (.tuple [.cq, .agg [.Z D, .Z at_]]) T aS):JI X ah aw K (oz D at_) h j:=by
 unfold JI
 rw[l4]
 show sZ X (.func 67) ([]++[.ptr J 0, .ptr b 0]) (some (oz D at_)) h j λb h j=>bR b (m6 X [.cell 2 23, .cell 3 26] ah K [] h j) _
 refine atY ax aK kZ q2 CI r1 hg oB (λT aS gr eh c5 aF=> ?_)
 show aj (K.g 2) (λp=>B (lz X T 23 p) λv=>aj (K.g 3) λp=>B (lz X T 26 p) λw=>ah (.tuple [v,w]) T aS)
 rw[U,ar]
 refine lq ?_
 rw[R5,eh]
 refine lr ?_
 refine lq ?_
 rw[F7,c5]
 exact lr (a T aS gr aF)
def Wy{fn:Fn}{first cap xK:List H}{K:dL}{ah:dL->Prop}(a:ah (yT K ⟨.fn fn cap,first++xK⟩)):Hy (.func fn first cap) xK K ah:=a
def BD(s:bx)(n:Nat):Option (Except (Int×Int) (List Go.a2.Node)):=match sH s (s.length+1) [] (nK s s.length 0)with
 |none=>none
 |some (.error J)=>some (.error (20,J))
 |some (.ok aU)=>match o2 n [] aU with
  |none=>none
  |some (.error J)=>some (.error (21,J))
  |some (.ok (ap,_))=>match qp ap with
   |some (D,J)=>some (.error (D,J))
   |none=>some (.ok ap)
def Tv(X:ck)(j:Nat)(r:Except (Int×Int) (List Go.a2.Node))(ad:H)(T:S ak)(ao:Nat):Prop:=match r with
 | .error (D,J)=>ad= .tuple [.cq, .agg [.Z D, .Z J]]
 | .ok ap=>∃v,ad= .tuple [v, .agg [.Z 0, .Z 0]]/\nD X T (dy j ao) ap v
def Hp(s:bx):∀(n i:Nat),i<=s.length->nK s n i<=s.length:=by
 intro n
 induction n with
 |zero=>intro i a;exact a
 |succ n al=>
  intro i a
  rw[nK]
  split
  ·exact a
  ·rename_i c az
   have ag:=(Zc.1 az).1
   split
   ·exact al _ Zo
   ·split
    ·have:=D4 (λc=>decide (c≠10)) (s.drop i)
     rw[Yw]at this
     exact al _ Zo
    ·exact a
def ad8(s:bx):∀(n:Nat) (aU:List Tok) (i:Nat) (pP:List Tok),aU.length<=i->i<=s.length->sH s n aU i=some (.ok pP)->pP.length<=s.length+1:=by
 intro n
 induction n with
 |zero=>intro aU i pP _ _ a;cases a
 |succ n al=>
  intro aU i pP R U a
  rw[sH]at a
  split at a
  ·split at a
   ·cases a
   ·rename_i x ag
    obtain⟨bZ,cw⟩:=S6 ag
    have c0:=OQ s s.length (i+x.text.length)
    exact al _ _ _ (by simp;omega) (Hp s _ _ cw) a
  ·cases a
   simp;omega
def ati(ax:is X)(eK:G3 X)(f0:v8 X){s:bx}{n:Nat}(r9:n<=170000)(aI:s.length<=65536)(ai:∀c∈s,c<256)(aK:(q X).a7<=j){a0:H}(aB:d8 a0=some (.Z (s.length:Int)))(CL:∀T aS,bj X h j T aS->As X T a0=some (.str s))
 {r:Except (Int×Int) (List Go.a2.Node)}(Z:BD s n=some r):
 aR X 15 [a0] h j (λad T ao=>Tv X j r ad T ao/\bj X h j T ao) (λ_ _ _=>False):=by
 refine Hs (afP X) (ax.none _ _ rfl) ?_
 rw[afQ]
 unfold TZ
 refine cH ⟨?_⟩
 refine e8 (λaX=>aa X aX j=some (.cells (S.ofList [.cq] 0 .nil) 1 .own)/\aa X aX (j+1)=some (.cells (S.ofList [.Z 0, .Z 0] 0 .nil) 2 .own)/\bj X h j aX (j+1+1)) ⟨by simp(disch:=omega) only[aE,bh]<;>rfl,by rw[bh Zo];rfl,dM⟩ ?_
 rintro aX ⟨b3,b2,bU⟩
 unfold BD at Z
 obtain⟨yW,FE⟩:∃yW,sH s (s.length+1) [] (nK s s.length 0)=some yW:=by
  cases a:sH s (s.length+1) [] (nK s s.length 0)with
  |none=>rw[a]at Z;cases Z
  |some yW=>exact⟨yW,rfl⟩
 rw[FE]at Z
 refine(ai7 ax eK aI ai Zo aB (λT aS a=>CL T aS (bU.trans a)) FE).Zm ?_
 rintro ad aJ a6 ⟨oN,bE⟩
 have f2:=bE.le
 have cQ:aa X aJ j=some (.cells (S.ofList [.cq] 0 .nil) 1 .own):=by rw[bE.ac _ Zo];exact b3
 have d1:aa X aJ (j+1)=some (.cells (S.ofList [.Z 0, .Z 0] 0 .nil) 2 .own):=by rw[bE.ac _ Zo];exact b2
 have jy:=bU.trans bE
 clear b3 b2
 cases yW with
 |error J=>
  simp only[Zf]at Z
  subst Z
  simp only[Vx]at oN
  subst oN
  have O7:decide ((20:Int)≠0)=true:=rfl
  refine ci @O7 ⟨?_⟩
  generalize fd:bm X aJ (j+1) _=aY
  have fA:aa X aY (j+1)=some (.cells (S.ofList [.Z 20, .Z J] 0 .nil) 2 .own):=by rw[<-fd,bh Zo];rfl
  have ar:∀e,e≠j+1->aa X aY e=aa X aJ e:=λe I=>by rw[<-fd,aE Zo I]
  rw[<-ar _ Zo]at cQ
  have ca:bj X h j aY a6:=⟨Zo,λe I=>by rw[ar e Zo];exact jy.ac e I⟩
  clear fd ar d1
  refine fE (hO (D:=1) (b:=j) (W:=0) (n:=1) cQ aK rfl Zd Zd rfl) ?_
  generalize fi:bm X aY j _=bw
  have dU:aa X bw j=some (.cells (dT (S.ofList [.cq] 0 .nil) 0 [.cq]) 1 .own):=by rw[<-fi,bh aK];rfl
  have aO:∀e,e≠j->aa X bw e=aa X aY e:=λe I=>by rw[<-fi,aE aK I]
  rw[<-aO _ Zo]at fA
  have dm:bj X h j bw a6:=⟨Zo,λe I=>by rw[aO e Zo];exact ca.ac e I⟩
  clear fi aO cQ ca
  refine s3 (bJ fA) ⟨?_⟩
  refine gQ (by simp[H.same,nw,o7]) ?_
  refine fE (hO (D:=2) (b:=j+1) (W:=0) (n:=2) fA Zo rfl Zd Zd rfl) ?_
  refine at9 (v:= .cq) (w:= .agg [.Z 20, .Z J]) rfl (fN) (fN) ?_ ?_ ⟨rfl,bj.set dm Zo aK Zo⟩
  ·rw[bJ (by rw[aE Zo Zo];exact dU),kg];rfl
  ·rw[nv,bJ (bh Zo),bJ (bh Zo),kg,kg];rfl
 |ok aU=>
  obtain⟨aq,bK,rfl,cz,axb,axc⟩:=oN
  simp only[]at Z
  have O7:decide ((0:Int)≠0)=false:=rfl
  refine ci @O7 ⟨?_⟩
  generalize fd:bm X aJ (j+1) _=aY
  have fA:aa X aY (j+1)=some (.cells (S.ofList [.Z 0, .Z 0] 0 .nil) 2 .own):=by rw[<-fd,bh Zo];rfl
  have ar:∀e,e≠j+1->aa X aY e=aa X aJ e:=λe I=>by rw[<-fd,aE Zo I]
  rw[<-ar _ Zo]at cQ
  have ca:bj X h j aY a6:=⟨Zo,λe I=>by rw[ar e Zo];exact jy.ac e I⟩
  have apz:=cz.ac (T:=aY) (λe I=>by subst I;exact ar e Zo)
  clear fd ar d1
  refine Wy ?_
  obtain⟨bB,cF,fp⟩:=ky cz.len
  refine cH ⟨?_⟩
  have fS:eA [.aT, .Z 0] [(0,1,aq)]=some (.agg [aq, .Z 0]):=by
   simp[eA,p1,p2,bB,lW]
  refine fE fS ?_
  refine cH ⟨?_⟩
  generalize h5:yT _ _=tV
  have kr:tV.bb=[⟨.fn (.func 67) [.ptr j 0, .ptr (j+1) 0],[]⟩]:=by rw[<-h5];rfl
  have d3:tV.g 2=some (.ptr j 0):=by rw[<-h5];rfl
  have t3:tV.g 3=some (.ptr (j+1) 0):=by rw[<-h5];rfl
  have WA:∀l,n8 2 l=false->(hC l tV).g 2=some (.ptr j 0):=λl a=>by simp[pY,d3,a]
  have WB:∀l,n8 3 l=false->(hC l tV).g 3=some (.ptr (j+1) 0):=λl a=>by simp[pY,t3,a]
  have Wu:∀l,(hC l tV).bb=[⟨.fn (.func 67) [.ptr j 0, .ptr (j+1) 0],[]⟩]:=λl=>kr
  clear h5
  refine e8 (λbw=>aa X bw a6=some (.cells (S.ofList [aq, .Z ((0:Nat):Int)] 0 .nil) 2 .own)/\bj X aY a6 bw (a6+1)) ⟨by rw[bh Zo];rfl,dM⟩ ?_
  rintro bw ⟨dU,yc⟩
  have fB:=ad8 s _ _ _ _ Zs (Hp s _ _ Zo) FE
  have apg:a2 X bw a6 bK aU 0:=⟨⟨_,aq,dU,rfl,rfl,apz.ac λe I=>by subst I;exact yc.ac e Zo⟩,Zo⟩
  have apj:it X bw (a6+1) a6 bK aU 0:=⟨Zo,Zo,Zo,Zo,Zo,apg⟩
  obtain⟨JS,A4⟩:∃JS,o2 n [] aU=some JS:=by
   cases a:o2 n [] aU with
   |none=>rw[a]at Z;cases Z
   |some JS=>exact⟨JS,rfl⟩
  rw[A4]at Z
  have cB:aa X bw j=some (.cells (S.ofList [.cq] 0 .nil) 1 .own):=by rw[yc.ac _ Zo];exact cQ
  have cu:aa X bw (j+1)=some (.cells (S.ofList [.Z 0, .Z 0] 0 .nil) 2 .own):=by rw[yc.ac _ Zo];exact fA
  refine(atC ax.todv f0 r9 Zo apj (r:=JS) A4).mono ?_ ?_
  ·rintro v bL cb ⟨ap,i5,rfl,AZ,_,dx⟩
   have hV:=dx.le
   simp only[]at Z
   have ee:aa X bL j=some (.cells (S.ofList [.cq] 0 .nil) 1 .own):=by rw[dx.ac _ Zo (by simp;omega)];exact cB
   have fV:aa X bL (j+1)=some (.cells (S.ofList [.Z 0, .Z 0] 0 .nil) 2 .own):=by rw[dx.ac _ Zo (by simp;omega)];exact cu
   have aaN:∀e,e<j->aa X bL e=aa X h e:=λe I=>by rw[dx.ac e Zo (by simp;omega),yc.ac e Zo];exact ca.ac e I
   obtain⟨xM,_,_,_,rfl,ξ,_⟩:=id AZ
   have axd:=ξ.1
   have axe:=ξ.2
   refine s3 @d3 ⟨?_⟩
   refine fE (hO (D:=1) (b:=j) (W:=0) (n:=1) ee aK rfl Zd Zd rfl) ?_
   generalize f8:bm X bL j _=cd
   have eN:aa X cd j=some (.cells (dT (S.ofList [.cq] 0 .nil) 0 [.ptr xM 0]) 1 .own):=by rw[<-f8,bh aK];rfl
   have cv:∀e,e≠j->aa X cd e=aa X bL e:=λe I=>by rw[<-f8,aE aK I]
   clear f8
   have mC:am X cd (.ptr j 0)=some (.ptr xM 0):=by rw[bJ eN,kg];rfl
   refine s3 @d3 ⟨?_⟩
   refine s3 @mC ⟨?_⟩
   have apk:=AZ.ac (T:=cd) (bs:=dy (a6+1) cb) (λe I=>cv e (by have:=I.1;omega)) (λ_ a=>a)
   have me:aa X cd (j+1)=some (.cells (S.ofList [.Z 0, .Z 0] 0 .nil) 2 .own):=by rw[cv _ Zo];exact fV
   refine(arO (j:=cb) (h:=cd) ax.todv Zo apk (λe I=>I.2)).mono ?_ ?_
   ·rintro Ke cr d9 ⟨oJ,rfl,eF⟩
    have mX:=eF.le
    rw[oJ]at Z
    simp only[Zf]at Z
    subst Z
    have hf:aa X cr j=some (.cells (dT (S.ofList [.cq] 0 .nil) 0 [.ptr xM 0]) 1 .own):=by rw[eF.ac _ Zo];exact eN
    have BH:aa X cr (j+1)=some (.cells (S.ofList [.Z 0, .Z 0] 0 .nil) 2 .own):=by rw[eF.ac _ Zo];exact me
    have l9:am X cr (.ptr j 0)=some (.ptr xM 0):=by rw[bJ hf,kg];rfl
    refine s3 @d3 ⟨?_⟩
    refine s3 @l9 ⟨?_⟩
    refine hR ⟨?_⟩
    refine s3 @d3 ⟨?_⟩
    refine fE (hO (D:=1) (b:=j) (W:=0) (n:=1) hf aK rfl Zd Zd rfl) ?_
    generalize nk:bm X cr j _=dH
    have kU:aa X dH j=some (.cells (dT (dT (S.ofList [.cq] 0 .nil) 0 [.ptr xM 0]) 0 [.ptr xM 0]) 1 .own):=by rw[<-nk,bh aK];rfl
    have fq:∀e,e≠j->aa X dH e=aa X cr e:=λe I=>by rw[<-nk,aE aK I]
    rw[<-fq _ Zo]at BH
    clear nk
    refine s3 @t3 ⟨?_⟩
    refine fE (hO (D:=2) (b:=j+1) (W:=0) (n:=2) BH Zo rfl Zd Zd rfl) ?_
    have qd:∀cR e,e≠j->e≠j+1->e<cb->aa X (bm X dH (j+1) cR) e=aa X bL e:=λcR e R U ar=>by
     rw[aE Zo U,fq e R,eF.ac e ar,cv e R]
    refine aua (v:= .ptr xM 0) (w:= .agg [.Z 0, .Z 0]) ax.todv kr d3 t3 ?_ ?_ ⟨⟨.ptr xM 0,rfl,AZ.ac (λe I=>qd _ e (by have:=I.1;omega) (by have:=I.1;omega) I.2) (λe I=>⟨by have:=I.1;omega,by have:=I.2;omega⟩)⟩,⟨Zo,λe I=>by rw[qd _ e Zo Zo Zo];exact aaN e I⟩⟩
    ·rw[bJ (by rw[aE Zo Zo];exact kU),kg];rfl
    ·rw[nv,bJ (bh Zo),bJ (bh Zo),kg,kg];rfl
   ·rintro ad cr d9 ⟨D,J,oJ,rfl,eF⟩
    have mX:=eF.le
    rw[oJ]at Z
    simp only[Zf]at Z
    subst Z
    refine ac4 (dk:=dT (S.ofList [.cq] 0 .nil) 0 [.ptr xM 0]) (dB:=S.ofList [.Z 0, .Z 0] 0 .nil) ax.todv (Wu _) (WA _ rfl) (WB _ rfl) aK Zo Zo Zo Zo ?_ ?_ (λT aS gr aF=>⟨rfl,Zo,λe I=> ?_⟩)
    ·rw[eF.ac _ Zo];exact eN
    ·rw[eF.ac _ Zo];exact me
    ·rw[aF e Zo Zo Zo,eF.ac e Zo,cv e Zo];exact aaN e I
  ·rintro ad bL cb ⟨J,rfl,rfl,dx⟩
   have hV:=dx.le
   simp only[Zf]at Z
   subst Z
   refine ac4 (dk:=S.ofList [.cq] 0 .nil) (dB:=S.ofList [.Z 0, .Z 0] 0 .nil) ax.todv (Wu _) (WA _ rfl) (WB _ rfl) aK Zo Zo Zo Zo ?_ ?_ (λT aS gr aF=>⟨rfl,Zo,λe I=> ?_⟩)
   ·rw[dx.ac _ Zo (by simp;omega)];exact cB
   ·rw[dx.ac _ Zo (by simp;omega)];exact cu
   ·rw[aF e Zo Zo Zo,dx.ac e Zo (by simp;omega),yc.ac e Zo];exact ca.ac e I
end
end
end Go.Proofs.YtpfajohmofnkfaaGreatDoor

namespace Go.a2
def hd:List Tok->Prop
 |[]=>False
 |x::l=>x.kind=7/\x.text=[]\/hd l
def hd.pb{x:Tok}{l:List Tok}(a:hd (x::l))(ag:x.kind≠7):hd l:=a.resolve_left λD=>ag D.1
def eb{α:Type}(b:Nat)(bs:α->Prop)(x:ga α):Prop:=∃r,x=some r/\∀J b5,r= .ok (J,b5)->hd b5/\b5.length<b/\bs J
def pT(F:bz):Prop:=F.kind=4->F.args≠[]
def eb.mono{α:Type}{b dR:Nat}{bs qJ:α->Prop}{x:ga α}(a:eb b bs x)(ai:b<=dR)(cl:∀J,bs J->qJ J):eb dR qJ x:=by
 obtain⟨r,R,U⟩:=a
 exact⟨r,R,λJ b5 F=>by obtain⟨bZ,cw,c0⟩:=U J b5 F;exact⟨bZ,Zo,cl J c0⟩⟩
def eb.ok{α:Type}{b:Nat}{bs:α->Prop}{J:α}{l:List Tok}(R:hd l)(U:l.length<b)(ar:bs J):eb b bs (a2.ok J l):=⟨_,rfl,λfR b5 F=>by cases F;exact⟨R,U,ar⟩⟩
def eb.bad{α:Type}{b:Nat}{bs:α->Prop}(J:Int):eb b bs (a2.bad J:ga α):=⟨_,rfl,λfR b5 F=>by cases F⟩
def eb.andThen{α eR:Type}{b dR:Nat}{bs:α->Prop}{qJ:eR->Prop}{x:ga α}{f:α->List Tok->ga eR}(a:eb b bs x)(D:∀J b5,hd b5->b5.length<b->bs J->eb dR qJ (f J b5)):eb dR qJ (a2.andThen x f):=by
 obtain⟨r,rfl,U⟩:=a
 cases r with
 |error J=>exact⟨_,rfl,λfR b5 F=>by cases F⟩
 |ok p=>
  obtain⟨J,b5⟩:=p
  obtain⟨bZ,cw,c0⟩:=U J b5 rfl
  exact D J b5 bZ cw c0
def SL{x:Tok}{s:bx}(a:hN x s=true):x.kind≠7:=by
 intro F;simp[hN,F]at a
def nz{s:bx}{l:List Tok}(a:hd l):eb l.length (λ_=>True) (eD s l):=by
 cases l with
 |nil=>exact a.elim
 |cons x l=>
  simp only[eD]
  split
  ·rename_i aI;exact eb.ok (a.pb (SL aI)) Zs trivial
  ·exact eb.bad _
def u2{D:Int}(aF:D≠7){l:List Tok}(a:hd l):eb l.length (λx:Tok=>True) (iB D l):=by
 cases l with
 |nil=>exact a.elim
 |cons x l=>
  simp only[iB]
  split
  ·rename_i aI;exact eb.ok (a.pb Zo) Zs trivial
  ·exact eb.bad _
def pN{eR:Type}{s:bx}{l:List Tok}{f:Option Tok->List Tok->ga eR}{b:Nat}{bs:eR->Prop}(a:hd l)(R:∀x b5,hd b5->b5.length+1=l.length->eb b bs (f (some x) b5))(U:eb b bs (f none l)):eb b bs (h7 s l f):=by
 cases l with
 |nil=>exact a.elim
 |cons x l=>
  unfold h7 lX
  by_cases aI:hN x s=true
  ·simp only[aI,ZD];exact R x l (a.pb (SL aI)) Zs
  ·simp only[aI,ZB];exact U
def V3{l:List Tok}(a:hd l):∀os:List (bx×Int),∃F b5,ou os l=some (F,b5)/\(F=none/\b5=l\/∃x,F=some x/\hd b5/\b5.length+1=l.length):=by
 cases l with
 |nil=>exact a.elim
 |cons x l=>
  intro os
  induction os with
  |nil=>exact⟨_,_,rfl, .inl ⟨rfl,rfl⟩⟩
  |cons W os al=>
   obtain⟨s,D⟩:=W
   unfold ou lX
   by_cases aI:hN x s=true
   ·simp only[aI,ZD];exact⟨_,_,rfl, .inr ⟨_,rfl,a.pb (SL aI),Zs⟩⟩
   ·simp only[aI,ZB]
    exact al
structure aeC(n:Nat):Prop where
 level:∀D l,D<=5->hd l->13*l.length+9-D<=n->eb l.length pT (level n D l)
 oX:∀D F l,D<=4->hd l->pT F->13*l.length+1<=n->eb (l.length+1) pT (oX n D F l)
 shift:∀l,hd l->13*l.length+3<=n->eb l.length pT (shift n l)
 o8:∀F l,hd l->pT F->13*l.length+1<=n->eb (l.length+1) pT (o8 n F l)
 o9:∀D x F l,D≠4->hd l->13*l.length+1<=n->eb l.length pT (o9 n D x F l)
 tE:∀l,hd l->13*l.length+2<=n->eb l.length pT (xi n l)
 na:∀F l,hd l->pT F->13*l.length+1<=n->eb (l.length+1) pT (na n F l)
 part:∀l,hd l->13*l.length+1<=n->eb l.length pT (part n l)
 list:∀l,hd l->13*l.length+12<=n->eb l.length (λ_=>True) (list n l)
 oY:∀cp l,hd l->13*l.length+1<=n->eb l.length (λ_=>True) (oY n cp l)
 lH:∀l,hd l->13*l.length+10<=n->eb l.length pT (lH n l)
 arrow:∀l,hd l->13*l.length+11<=n->eb l.length pT (arrow n l)
def tM{F:bz}(a:F.kind≠4):pT F:=λD=>absurd D a
def Tg{F:bz}(a:F.args≠[]):pT F:=λ_=>a
def hd.pos{l:List Tok}(a:hd l):0<l.length:=by cases l with
 |nil=>exact a.elim
 |cons x l=>simp
def ai5:∀n,aeC n:=by
 intro n
 induction n with
 |zero=>constructor<;>(intros;rename_i a _ _;omega)
 |succ n al=>
  constructor
  case level=>
   intro D l aF aB aK
   have:=aB.pos
   rw[level]
   split
   ·exact al.shift l aB Zo
   ·refine(al.level (D+1) l Zo aB Zo).andThen λF b5 R U ar=> ?_
    exact(al.oX D F b5 Zo R ar Zo).mono Zo λ_ a=>a
  case oX=>
   intro D F l aF aB bt aK
   have:=aB.pos
   rw[oX]
   obtain⟨W,b5,R,U⟩:=V3 aB (av D)
   rw[R]
   rcases U with ⟨rfl,rfl⟩|⟨x,rfl,ar,aO⟩
   ·exact eb.ok aB Zo bt
   ·simp only[]
    refine(al.level (D+1) b5 Zo ar Zo).andThen λr c5 bZ cw c0=> ?_
    split
    ·exact eb.ok bZ Zo (Tg (by simp[two,bz.args]))
    ·exact(al.oX D _ c5 aF bZ (Tg (by simp[two,bz.args])) Zo).mono Zo λ_ a=>a
  case shift=>
   intro l aB aK
   have:=aB.pos
   rw[shift]
   refine(al.tE l aB Zo).andThen λF b5 R U ar=> ?_
   exact(al.o8 F b5 R ar Zo).mono Zo λ_ a=>a
  case o8=>
   intro F l aB bt aK
   have:=aB.pos
   rw[o8]
   refine pN aB (λx b5 R U=>(al.o9 19 x F b5 Zd R Zo).mono Zo λ_ a=>a) ?_
   refine pN aB (λx b5 R U=>(al.o9 20 x F b5 Zd R Zo).mono Zo λ_ a=>a) ?_
   exact eb.ok aB Zo bt
  case o9=>
   intro D x F l aF aB aK
   have:=aB.pos
   rw[o9]
   refine(u2 Zd aB).andThen λm b5 R U ar=> ?_
   split
   ·exact eb.bad _
   ·exact(al.o8 _ b5 R (tM (by simpa[bz.kind]using aF)) Zo).mono Zo λ_ a=>a
  case tE=>
   intro l aB aK
   have:=aB.pos
   rw[xi]
   obtain⟨W,b5,R,U⟩:=V3 aB yR
   rw[R]
   rcases U with ⟨rfl,rfl⟩|⟨x,rfl,ar,aO⟩
   ·simp only[]
    refine(al.part b5 aB Zo).andThen λF c5 bZ cw c0=> ?_
    exact(al.na F c5 bZ c0 Zo).mono Zo λ_ a=>a
   ·simp only[]
    refine(al.tE b5 ar Zo).andThen λF c5 bZ cw c0=> ?_
    exact eb.ok bZ Zo (Tg (by simp[bz.args]))
  case na=>
   intro F l aB bt aK
   have:=aB.pos
   rw[na]
   refine pN aB (λx b5 R U=> ?_) (eb.ok aB Zo bt)
   have:=R.pos
   refine pN R (λe c5 bZ cw=> ?_) ?_
   ·refine(u2 Zd bZ).andThen λm e5 fb ff mb=> ?_
    exact(al.na _ e5 fb (tM (by simp[bz.kind])) Zo).mono Zo λ_ a=>a
   ·refine(u2 Zd R).andThen λm e5 fb ff mb=> ?_
    exact(al.na _ e5 fb (tM (by simp[bz.kind])) Zo).mono Zo λ_ a=>a
  case list=>
   intro l aB aK
   have:=aB.pos
   rw[list]
   refine pN aB (λx b5 R U=>eb.ok R Zo trivial) ?_
   refine(al.arrow l aB Zo).andThen λF c5 bZ cw c0=> ?_
   exact(al.oY _ c5 bZ Zo).mono Zo λ_ a=>a
  case oY=>
   intro cp l aB aK
   have:=aB.pos
   rw[oY]
   refine pN aB (λx b5 R U=> ?_) ?_
   ·refine(al.arrow b5 R Zo).andThen λF c5 bZ cw c0=> ?_
    exact(al.oY _ c5 bZ Zo).mono Zo λ_ a=>a
   ·exact(nz aB).andThen λ_ b5 R U _=>eb.ok R Zo trivial
  case lH=>
   intro l aB aK
   have:=aB.pos
   rw[lH]
   refine(al.level 0 l Zo aB Zo).andThen λF c5 bZ cw c0=> ?_
   refine pN bZ (λx b5 R U=> ?_) (eb.ok bZ Zo c0)
   have AV:tz F≠none:=by
    unfold tz
    split
    ·simp
    ·split
     ·rename_i aO
      have:=c0 aO
      cases aC:F.args with
      |nil=>exact absurd aC this
      |cons J l=>simp
     ·simp
   simp only[]
   split
   ·rename_i a;exact absurd a AV
   ·refine(al.lH b5 R Zo).andThen λr e5 fb ff mb=> ?_
    exact eb.ok fb Zo (tM (by simp[bz.kind]))
   ·exact eb.bad _
  case arrow=>
   intro l aB aK
   have:=aB.pos
   rw[arrow]
   refine(al.lH l aB Zo).andThen λF c5 bZ cw c0=> ?_
   refine pN bZ (λx b5 R U=> ?_) (eb.ok bZ Zo c0)
   refine(al.arrow b5 R Zo).andThen λr e5 fb ff mb=> ?_
   exact eb.ok fb Zo (tM (by simp[bz.kind]))
  case part=>
   intro l aB aK
   cases l with
   |nil=>exact aB.elim
   |cons x l=>
   simp only[ZC]at aK
   rw[part]
   have fB:(x::l).length=l.length+1:=rfl
   rw[fB]
   by_cases jY:x.kind=5
   ·rw[Zq jY]
    exact eb.ok (aB.pb Zo) Zo (tM (by simp[bz.kind]))
   rw[Zh jY]
   split
   ·rename_i a
    have:x.kind=2:=by simp at a;exact a.1
    exact eb.ok (aB.pb Zo) Zo (tM (by simp[bz.kind]))
   by_cases dk:x.kind=1
   ·rw[Zq dk]
    have hh:=aB.pb Zo
    refine pN hh (λe c5 R U=> ?_) (eb.ok hh Zo (tM (by simp[bz.kind])))
    refine(al.list c5 R Zo).andThen λcp e5 fb ff mb=> ?_
    exact eb.ok fb Zo (tM (by simp[bz.kind]))
   rw[Zh dk]
   by_cases gF:x.kind=3
   ·rw[Zq gF]
    have hh:=aB.pb Zo
    refine(nz hh).andThen λ_ c5 R U _=> ?_
    refine(al.arrow c5 R Zo).andThen λF e5 fb ff mb=> ?_
    refine(nz fb).andThen λ_ gW fy hu _=> ?_
    exact eb.ok fy Zo (tM (by simp[bz.kind]))
   rw[Zh gF]
   split
   ·rename_i a
    have:x.kind=6:=by simp at a;exact a.1
    have hh:=aB.pb Zo
    refine(al.arrow l hh Zo).andThen λF e5 fb ff mb=> ?_
    refine(nz fb).andThen λ_ gW fy hu _=> ?_
    exact eb.ok fy Zo mb
   split
   ·rename_i a
    have:x.kind=2:=by simp at a;exact a.1
    have hh:=aB.pb Zo
    refine(al.arrow l hh Zo).andThen λF e5 fb ff mb=> ?_
    refine(nz fb).andThen λ_ gW fy hu _=> ?_
    refine(al.arrow gW fy Zo).andThen λcF gB cB cu ee=> ?_
    refine(nz cB).andThen λ_ mC e0 fF _=> ?_
    refine(al.arrow mC e0 Zo).andThen λfp l9 iZ kH JV=> ?_
    exact eb.ok iZ Zo (tM (by simp[bz.kind]))
   split
   ·rename_i a
    have:x.kind=2:=by simp at a;exact a.1
    have hh:=aB.pb Zo
    refine(u2 Zd hh).andThen λc c5 R U _=> ?_
    refine(al.part c5 R Zo).andThen λF e5 fb ff mb=> ?_
    refine(al.part e5 fb Zo).andThen λcF gW fy hu xh=> ?_
    exact eb.ok fy Zo (tM (by simp[bz.kind]))
   ·exact eb.bad _
def acB:∀(n:Nat) (cp l:List Tok),hd l->l.length<=n->eb l.length (λ_=>True) (rj n cp l):=by
 intro n
 induction n with
 |zero=>intro cp l a aK;have:=a.pos;omega
 |succ n al=>
  intro cp l a aK
  rw[rj]
  refine(u2 Zd a).andThen λx c5 R U _=> ?_
  refine pN R (λe e5 bZ cw=>(al _ e5 bZ Zo).mono Zo λ_ a=>a) (eb.ok R Zo trivial)
def akk{w:Option Tok}{l:List Tok}(a:hd l):eb (l.length+1) (λ_=>True) (Au w l):=by
 cases w with
 |none=>exact eb.ok a Zo trivial
 |some w=>
  simp only[Au]
  refine pN a (λe c5 bZ cw=> ?_) ?_
  ·exact(u2 Zd bZ).andThen λx e5 fb ff _=>eb.ok fb Zo trivial
  ·exact(u2 Zd a).andThen λx e5 fb ff _=>eb.ok fb Zo trivial
def O8:∀(n:Nat) (loc:Bool) (ds:List fP) (l:List Tok),hd l->l.length+1<=n->eb l.length (λ_=>True) (iS n loc ds l):=by
 intro n
 induction n with
 |zero=>intro loc ds l a aK;omega
 |succ n al=>
  intro loc ds l a aK
  rw[iS]
  refine(acB n [] l a Zo).andThen λcm c5 R U _=> ?_
  unfold Ci
  refine(nz R).andThen λ_ e5 bZ cw _=> ?_
  refine(u2 Zd bZ).andThen λt gW fb ff _=> ?_
  have fin:∀w gB,hd gB->gB.length<=gW.length->eb l.length (λ_=>True) (andThen (Au w gB) λr l=>xQ loc (iS n loc) (ds++cm.map (pr t.ty r.1 r.2.1 r.2.2)) l):=by
   intro w gB fy hu
   refine(akk fy).andThen λr mC cB cu _=> ?_
   unfold xQ
   cases mC with
   |nil=>exact cB.elim
   |cons e l9=>
    simp only[y3,ZC]at cu ⊢
    split
    ·rename_i aI
     have ee:hd l9:=cB.resolve_left λD=>by rw[D.2]at aI;cases aI
     split
     ·cases l9 with
      |nil=>exact ee.elim
      |cons br n5=>
       simp only[y3]
       split
       ·exact eb.ok cB (by simp at cu ⊢;omega) trivial
       ·exact(al _ _ (br::n5) ee (by simp at cu ⊢;omega)).mono (by simp at cu ⊢;omega) λ_ a=>a
     ·exact(al _ _ l9 ee Zo).mono Zo λ_ a=>a
    ·exact eb.ok cB (by simp;omega) trivial
  refine pN fb (λe gB fy hu=>fin _ gB fy Zo) (fin _ gW fb Zo)
def alg{n:Nat}{l:List Tok}(a:hd l)(aK:13*l.length+12<=n):eb l.length (λ_=>True) (ug n l):=by
 unfold ug
 have fin:∀(x:ga (List Tok)),eb (l.length+1) (λ_=>True) x->eb l.length (λ_=>True) (andThen x λcm l=>andThen (eD [61] l) λF l=>andThen (arrow n l) λr l=>andThen (eD [59] l) λ_ l=>ok (⟨cm.map Tok.text,cm.map Tok.at_,F.at_,r⟩:hl) l):=by
  intro x ag
  refine ag.andThen λcm c5 R U _=> ?_
  refine(nz R).andThen λ_ e5 bZ cw _=> ?_
  refine((ai5 n).arrow e5 bZ Zo).andThen λF gW fb ff _=> ?_
  exact(nz fb).andThen λ_ gB fy hu _=>eb.ok fy Zo trivial
 refine pN a (λe c5 R U=>fin _ ?_) (fin _ ?_)
 ·refine(u2 Zd R).andThen λx e5 bZ cw _=> ?_
  refine(nz bZ).andThen λ_ gW fb ff _=> ?_
  refine(acB n _ gW fb Zo).andThen λcm gB fy hu _=> ?_
  exact(nz fy).andThen λ_ mC cB cu _=>eb.ok cB Zo trivial
 ·exact(u2 Zd a).andThen λx e5 bZ cw _=>eb.ok bZ Zo trivial
def alj:∀(n:Nat) (c3:List hl) (l:List Tok),hd l->13*l.length+13<=n->eb l.length (λ_=>True) (lG n c3 l):=by
 intro n
 induction n with
 |zero=>intro c3 l a aK;omega
 |succ n al=>
  intro c3 l a aK
  rw[lG]
  refine pN a (λe c5 R U=>eb.ok R Zo trivial) ?_
  refine(alg a Zo).andThen λan c5 R U _=> ?_
  exact(al _ c5 R Zo).mono Zo λ_ a=>a
def asB{n:Nat}{l:List Tok}(a:hd l)(aK:13*l.length+13<=n):eb l.length (λ_=>True) (node n l):=by
 unfold node
 refine(nz a).andThen λ_ c5 R U _=> ?_
 refine(u2 Zd R).andThen λx e5 bZ cw _=> ?_
 refine(nz bZ).andThen λ_ gW fb ff _=> ?_
 have aly:∀eQ out gB,hd gB->gB.length<gW.length->eb l.length (λ_=>True) (h7 [118,97,114] gB λe l=>andThen (match e with
  |some _=>andThen (iS n true [] l) λds l=>andThen (eD [59] l) λ_ l=>ok ds l
  |none=>ok [] l) λloc l=>
  andThen (eD [108,101,116] l) λ_ l=>andThen (lG n [] l) λc3 l=>ok (⟨x.text,x.at_,eQ,out,loc,c3⟩:Node) l):=by
  intro eQ out gB fy hu
  have W8:∀(br:ga (List fP)),eb (gB.length+1) (λ_=>True) br->eb l.length (λ_=>True) (andThen br λloc l=>
   andThen (eD [108,101,116] l) λ_ l=>andThen (lG n [] l) λc3 l=>ok (⟨x.text,x.at_,eQ,out,loc,c3⟩:Node) l):=by
   intro br ct
   refine ct.andThen λloc mC cB cu _=> ?_
   refine(nz cB).andThen λ_ l9 e0 fF _=> ?_
   refine(alj n _ l9 e0 Zo).andThen λc3 n5 iZ kH _=> ?_
   exact eb.ok iZ Zo trivial
  refine pN fy (λe mC cB cu=>W8 _ ?_) (W8 _ (eb.ok fy Zo trivial))
  refine(O8 n _ _ mC cB Zo).andThen λds l9 e0 fF _=> ?_
  exact(nz e0).andThen λ_ n5 iZ kH _=>eb.ok iZ Zo trivial
 have W7:∀(br:ga (List fP)),eb (gW.length+1) (λ_=>True) br->eb l.length (λ_=>True) (andThen br λeQ l=>
  andThen (eD [114,101,116,117,114,110,115] l) λ_ l=>andThen (eD [40] l) λ_ l=>andThen (iS n false [] l) λout l=>andThen (eD [41] l) λ_ l=>
  h7 [118,97,114] l λe l=>andThen (match e with
  |some _=>andThen (iS n true [] l) λds l=>andThen (eD [59] l) λ_ l=>ok ds l
  |none=>ok [] l) λloc l=>
  andThen (eD [108,101,116] l) λ_ l=>andThen (lG n [] l) λc3 l=>ok (⟨x.text,x.at_,eQ,out,loc,c3⟩:Node) l):=by
  intro br ct
  refine ct.andThen λeQ gB fy hu _=> ?_
  refine(nz fy).andThen λ_ mC cB cu _=> ?_
  refine(nz cB).andThen λ_ l9 e0 fF _=> ?_
  refine(O8 n _ _ l9 e0 Zo).andThen λout n5 iZ kH _=> ?_
  refine(nz iZ).andThen λ_ sn t1 d3 _=> ?_
  exact aly eQ out sn t1 Zo
 refine pN fb (λe gB fy hu=>W7 _ (eb.ok fy Zo trivial)) (W7 _ ?_)
 refine(O8 n _ _ gW fb Zo).andThen λds l9 e0 fF _=> ?_
 exact(nz e0).andThen λ_ n5 iZ kH _=>eb.ok iZ Zo trivial
def asD:∀(n:Nat) (ap:List Node) (l:List Tok),hd l->13*l.length+14<=n->eb l.length (λ_=>True) (o2 n ap l):=by
 intro n
 induction n with
 |zero=>intro ap l a aK;omega
 |succ n al=>
  intro ap l a aK
  rw[o2]
  refine(asB a Zo).andThen λg c5 R U _=> ?_
  cases c5 with
  |nil=>exact R.elim
  |cons x e5=>
   simp only[]
   split
   ·exact eb.ok R Zo trivial
   ·exact(al _ _ R Zo).mono Zo λ_ a=>a
end Go.a2

namespace Go.Proofs.YtpfajohmofnkfaaGreatDoor
open Go.bg Go.a2
def hd.snoc{x:Tok}(R:x.kind=7)(U:x.text=[]):∀l:List Tok,hd (l++[x]):=by
 intro l
 induction l with
 |nil=>exact .inl ⟨R,U⟩
 |cons e l al=>exact .inr al
def avL(s:bx):∀(n:Nat) (aU:List Tok) (i:Nat),i<=s.length->s.length<i+n->∃r,sH s n aU i=some r/\∀pP,r= .ok pP->hd pP:=by
 intro n
 induction n with
 |zero=>intro aU i R U;omega
 |succ n al=>
  intro aU i R U
  rw[sH]
  split
  ·cases ag:xq s i with
   |none=>exact⟨_,rfl,λpP a=>by cases a⟩
   |some x=>
    obtain⟨bZ,cw⟩:=S6 ag
    have c0:=OQ s s.length (i+x.text.length)
    exact al _ _ (Hp s _ _ cw) Zo
  ·exact⟨_,rfl,λpP a=>by cases a;exact hd.snoc rfl rfl _⟩
def atg{s:bx}(aI:s.length<=5000):∃r,BD s 170000=some r:=by
 unfold BD
 obtain⟨r,R,U⟩:=avL s (s.length+1) [] (nK s s.length 0) (Hp s _ _ Zo) Zo
 rw[R]
 cases r with
 |error J=>exact⟨_,rfl⟩
 |ok aU=>
  simp only[]
  have fB:=ad8 s _ _ _ _ Zs (Hp s _ _ Zo) R
  obtain⟨r,ar,_⟩:=asD 170000 [] aU (U aU rfl) Zo
  rw[ar]
  cases r with
  |error J=>exact⟨_,rfl⟩
  |ok p=>
   obtain⟨ap,l⟩:=p
   simp only[]
   cases qp ap with
   |none=>exact⟨_,rfl⟩
   |some an=>exact⟨_,rfl⟩
noncomputable def yQ(s:bx):Except (Int×Int) (List Go.a2.Node):=match BD s 170000 with
 |some r=>r
 |none=> .error (0,0)
def ac7{s:bx}(aI:s.length<=5000):BD s 170000=some (yQ s):=by
 obtain⟨r,a⟩:=atg aI
 unfold yQ
 rw[a]
variable{X:ck}{h:S ak}{j:Nat}
def atf(ax:is X)(eK:G3 X)(f0:v8 X){s:bx}(aI:s.length<=5000)(ai:∀c∈s,c<256)(aK:(q X).a7<=j){a0:H}(aB:d8 a0=some (.Z (s.length:Int)))(CL:∀T aS,bj X h j T aS->As X T a0=some (.str s)):
 aR X 15 [a0] h j (λad T ao=>Tv X j (yQ s) ad T ao/\bj X h j T ao) (λ_ _ _=>False):=
 ati ax eK f0 (Zi _) Zo ai aK aB CL (ac7 aI)
end Go.Proofs.YtpfajohmofnkfaaGreatDoor

namespace Go.Proofs.YtpfajohmofnkfaaGreatDoor
open Go.bg Go.a2
noncomputable section
def EU(nm:bx):Nat->List Go.a2.Node->Option Nat
 |_,[]=>none
 |D,g::l=>if g.name=nm then some D else EU nm (D+1) l
def rW(ap:List Go.a2.Node)(nm:bx):Option Nat:=EU nm 0 ap
section
variable{X:ck}{h T aX aJ:S ak}{j ao aL a6:Nat}{P:Nat->Prop}{ap:List Go.a2.Node}
def aqD(ax:dv X){g:Go.a2.Node}{row:List H}(aK:(q X).a7<=j)(b0:pk X h P g row){c:Nat}{nm:bx}(az:c<j)(wR:am X h (.ptr c 0)=some (.str nm)):
 aR X 134 [.agg row, .ptr c 0] h j (λad T ao=>ad= .bool (decide (g.name=nm))/\bj X h j T ao) (λ_ _ _=>False):=by
 refine c4 (afv X) (ax.none _ _ rfl) ?_
 rw[afw]
 unfold TR
 obtain⟨dd,dz,a8,eV,cZ,dO,ei,h2,adH,rfl,_⟩:=b0
 refine ci @wR ⟨?_⟩
 exact⟨rfl,dM⟩
def aqt(ax:dv X){a8:H}{cL:Nat}{bC:List (List H)}(aK:(q X).a7<=j)(cz:d5 X h P cL a8 6 bC)(uD:oo X h P ap bC)(bu:∀e,P e->e<j){c:Nat}{nm:bx}(az:c<j)(wR:am X h (.ptr c 0)=some (.str nm)):
 aR X 133 [a8, .func (.func 134) [] [.ptr c 0]] h j (λad T ao=>ad= .Z (match rW ap nm with|some D=>(D:Int)|none=> -1)/\bj X h j T ao) (λ_ _ _=>False):=by
 refine c4 (aft X) (ax.none _ _ rfl) ?_
 rw[afu]
 unfold TQ
 have wT:=uD.wide
 have ec:=cz.len
 have hp:=cz.many
 rw[wT.1]at ec hp
 refine ci @ec ⟨?_⟩
 refine fD (λm K T aS=>∃(Y:Nat),K.g 0=some a8/\K.g 1=some (.func (.func 134) [] [.ptr c 0])/\K.g 7=some (.Z (ap.length:Int))/\K.g 8=some (.Z (Y:Int))/\Y+m=ap.length/\bj X h j T aS/\rW ap nm=EU nm Y (ap.drop Y))
  ap.length ⟨0,bn,bn,bn,fN,Zo,bj.refl _ _,rfl⟩ ?_
 rintro m K aJ a6 ⟨Y,t0,t1,gu,gZ,bH,bE,ce⟩
 have f2:=bE.le
 cases m with
 |zero=>
  have d:decide ((Y:Int)<(ap.length:Int))=false:=by simp only[Zb];omega
  rw[ZE Zo]at ce
  refine eu @gZ @gu @d ⟨?_⟩
  exact⟨by rw[ce];rfl,bE⟩
 |succ m=>
  have d:decide ((Y:Int)<(ap.length:Int))=true:=by simp only[Zg];omega
  have bB:aA .add (.Z (Y:Int)) (.Z 1)=some (.Z ((Y+1:Nat):Int)):=by rw[eI Zo Zo];rfl
  obtain⟨g,b0⟩:∃g,ap[Y]? =some g:=⟨_,Ze Zo⟩
  have aH:ap.drop Y=g::ap.drop (Y+1):=by
   obtain⟨ag,I⟩:=Zc.1 b0
   rw[Zr ag,I]
  obtain⟨row,fC,jj⟩:=uD.get Y g b0
  have aF:=λe (I:P e)=>bE.ac e (bu e I)
  have d2:=cz.gi Y (by rw[wT.1];omega)
  have ig:=(cz.ac aF).row Zd fC
  have Qq:am X aJ (.ptr c 0)=some (.str nm):=by rw[cA,bE.ac c az, <-cA];exact wR
  rw[aH,EU]at ce
  refine ev @gZ @gu @t1 @t0 @d @d2 @ig ⟨?_⟩
  refine(aqD ax Zo (jj.ac (bs:=P) aF (λ_ a=>a)) Zo Qq).Zm ?_
  rintro ad aY ba ⟨rfl,ca⟩
  by_cases iy:g.name=nm
  ·rw[Zq iy]at ce
   have cJ:decide (g.name=nm)=true:=by simp[iy]
   rw[cJ]
   refine cH ⟨?_⟩
   exact⟨by rw[ce],bE.trans ca⟩
  ·rw[Zh iy]at ce
   have cJ:decide (g.name=nm)=false:=by simp[iy]
   rw[cJ]
   refine cM @gZ @bB ⟨?_⟩
   exact⟨m,Zo,Y+1,a1 t0,a1 t1,a1 gu,bn,Zo,bE.trans ca,ce⟩
def Po(b:Nat):dj X h .eql 23 true (.ptr b 0) .cq=some (.bool false):=Zk
def acv{C:aW}{h:S ak}(x:Int):pV C h .max [3,3] [.Z x, .Z 0]=some (.Z (max x 0)):=by
 show nf true (.Z x) [.Z 0]=_
 simp only[nf,fo,sj,ZD]
 congr 2
 simp only[Zg]
 split<;>omega
def Pw(ax:dv X){v:H}(aK:(q X).a7<=j)(b0:nD X h P ap v)(bu:∀e,P e->e<j)(nm:bx):
 aR X 79 [v, .str nm] h j (λad T ao=>ad= .tuple [.Z (((rW ap nm).getD 0:Nat):Int), .bool (rW ap nm).isSome]/\bj X h j T ao) (λ_ _ _=>False):=by
 refine c4 (aim X) (ax.none _ _ rfl) ?_
 rw[ain]
 unfold Vn
 obtain⟨b,a8,cL,bC,rfl,nj,a0,cz,uD⟩:=b0
 have gg:=bu b nj
 refine cM @Po @a0 ⟨?_⟩
 refine e8 (λaX=>aa X aX j=some (.cells (S.ofList [.str nm] 0 .nil) 1 .own)/\bj X h j aX (j+1)) ⟨bh aK,dM⟩ ?_
 rintro aX ⟨b3,bU⟩
 have aF:=λe (I:P e)=>bU.ac e (bu e I)
 refine(aqt (j:=j+1) (h:=aX) ax Zo (cz.ac aF) (uD.ac (bs:=P) aF (λ_ a=>a)) (λe I=>by have:=bu e I;omega) Zo (by rw[bJ b3];rfl)).Zm ?_
 rintro ad aJ a6 ⟨rfl,bE⟩
 cases ce:rW ap nm with
 |none=>
  refine ci @acv ⟨?_⟩
  exact⟨rfl,bU.trans bE⟩
 |some D=>
  have d:decide ((0:Int)<=(D:Int))=true:=by simp only[Zg];omega
  have bp:max (D:Int) 0=(D:Int):=Zo
  refine eu @acv @d @bp ⟨?_⟩
  exact⟨rfl,bU.trans bE⟩
end
mutual
def BS{kM:Type}(step:kM->bz->kM×Bool):kM->bz->kM
 |s, .mk D J nm no t n args=>if (step s (.mk D J nm no t n args)).2=true then xt step (step s (.mk D J nm no t n args)).1 args else(step s (.mk D J nm no t n args)).1
def xt{kM:Type}(step:kM->bz->kM×Bool):kM->List bz->kM
 |s,[]=>s
 |s,F::l=>xt step (BS step s F) l
end
def awi{kM:Type}(step:kM->bz->kM×Bool)(s:kM)(F:bz):BS step s F=if (step s F).2=true then xt step (step s F).1 F.args else(step s F).1:=by
 cases F;rw[BS];rfl
def JZ{F J:bz}(a:J∈F.args):SizeOf.sizeOf J<SizeOf.sizeOf F:=by
 cases F with
 |mk D at_ nm no t n args=>
  have cD:J∈args:=a
  have:=List.sizeOf_lt_of_mem cD
  simp
  omega
section
variable{X:ck}{h T aX aJ:S ak}{j ao aL a6:Nat}
def aep(ax:dv X){kM:Type}(step:kM->bz->kM×Bool)(P:Nat->Prop)(dX:kM->S ak->Nat->Prop)(fG:S ak)(eE:bz->H->Prop)(iI:∀F b a8 cL bk,eE F (.ptr b 0)->am X fG (.ptr b 8)=some a8->d5 X fG P cL a8 1 (bk.map λv=>[v])->dp X fG P F.args bk->∀(i:Nat) J w,F.args[i]? =some J->bk[i]? =some w->eE J w)(D:Nat)(Cq uh:List H)
 (ra:∀(s:kM) (F:bz) (v:H) (h:S ak) (j:Nat),dX s h j->eE F v->cI X h P F v->(∀e,P e->aa X h e=aa X fG e)->aR X D ((Cq++[v])++uh) h j (λad T ao=>ad= .bool (step s F).2/\dX (step s F).1 T ao/\∀e,P e->aa X T e=aa X h e) (λ_ _ _=>False)):
 ∀(N:Nat) (F:bz),SizeOf.sizeOf F<N->∀(s:kM) (v:H) (h:S ak) (j:Nat),dX s h j->eE F v->cI X h P F v->(∀e,P e->aa X h e=aa X fG e)->
  aR X 18 [v, .func (.func D) Cq uh] h j (λad T ao=>ad= .tuple []/\dX (BS step s F) T ao/\∀e,P e->aa X T e=aa X h e) (λ_ _ _=>False):=by
 intro N
 induction N with
 |zero=>intro F a;omega
 |succ N al=>
  intro F jf s v h j gS Z bt If
  refine c4 (agC X) (ax.none _ _ rfl) ?_
  rw[agD]
  unfold Ul
  obtain⟨b,a8,cL,bk,rfl,ai,_,_,_,_,_,_,_,_,hA,cz,has⟩:=id bt.open
  have ec:=cz.len
  have rb:=has.len
  rw[Zp,rb]at ec
  have hp:=cz.many
  rw[Zp,rb]at hp
  rw[awi]
  refine ci @Nu ⟨?_⟩
  refine(ra s F _ h j gS Z bt If).Zm ?_
  rintro ad aX aL ⟨rfl,X5,kY⟩
  cases axi:(step s F).2 with
  |false=>
   refine cH ⟨?_⟩
   exact⟨rfl,X5,kY⟩
  |true=>
   have B5:am X aX (.ptr b 8)=some a8:=by rw[cA,kY b ai, <-cA];exact hA
   refine cM @B5 @ec ⟨?_⟩
   refine fD (λm K T aS=>∃(Y:Nat) (fs:kM),K.g 1=some (.func (.func D) Cq uh)/\K.g 17=some a8/\K.g 18=some (.Z (F.args.length:Int))/\K.g 19=some (.Z (Y:Int))/\Y+m=F.args.length/\dX fs T aS/\(∀e,P e->aa X T e=aa X h e)/\xt step (step s F).1 F.args=xt step fs (F.args.drop Y))
    F.args.length ⟨0,_,bn,bn,bn,fN,Zo,X5,kY,rfl⟩ ?_
   rintro m K aJ a6 ⟨Y,fs,t1,BM,GO,xp,bH,nU,jh,bP⟩
   cases m with
   |zero=>
    have d:decide ((Y:Int)<(F.args.length:Int))=false:=by simp only[Zb];omega
    rw[ZE Zo,xt]at bP
    refine eu @xp @GO @d ⟨?_⟩
    exact⟨rfl,by simp only[ZD];rw[bP];exact nU,jh⟩
   |succ m=>
    have d:decide ((Y:Int)<(F.args.length:Int))=true:=by simp only[Zg];omega
    have bB:aA .add (.Z (Y:Int)) (.Z 1)=some (.Z ((Y+1:Nat):Int)):=by rw[eI Zo Zo];rfl
    obtain⟨J,aC⟩:∃J,F.args[Y]? =some J:=⟨_,Ze Zo⟩
    have aH:F.args.drop Y=J::F.args.drop (Y+1):=by
     obtain⟨ag,I⟩:=Zc.1 aC
     rw[Zr ag,I]
    obtain⟨w,my,Qj⟩:=has.get Y J aC
    obtain⟨b3,b2,cQ⟩:=(cz.ac jh).one my
    rw[aH,xt]at bP
    refine ev @xp @GO @BM @t1 @d @b3 @b2 ⟨?_⟩
    have eH:=JZ (Zj aC)
    refine(al J Zo fs w aJ a6 nU (iI F b a8 cL bk Z (by rw[cA, <-If b ai, <-cA];exact hA) (cz.ac λe I=>(If e I).symm) (dp.ac (λe I=>(If e I).symm) _ _ has) Y J w aC my) (cI.ac jh _ _ Qj) (λe I=>(jh e I).trans (If e I))).Zm ?_
    rintro ad aY ba ⟨rfl,yf,nX⟩
    refine cM @xp @bB ⟨?_⟩
    exact⟨m,Zo,Y+1,_,a1 t1,a1 BM,a1 GO,bn,Zo,yf,λe I=>by rw[nX e I,jh e I],bP⟩
def awj(ax:dv X){kM:Type}(step:kM->bz->kM×Bool)(P:Nat->Prop)(dX:kM->S ak->Nat->Prop)(D:Nat)(Cq uh:List H)
 (ra:∀(s:kM) (F:bz) (v:H) (h:S ak) (j:Nat),dX s h j->cI X h P F v->aR X D ((Cq++[v])++uh) h j (λad T ao=>ad= .bool (step s F).2/\dX (step s F).1 T ao/\∀e,P e->aa X T e=aa X h e) (λ_ _ _=>False))
 (N:Nat)(F:bz)(jf:SizeOf.sizeOf F<N)(s:kM)(v:H)(h:S ak)(j:Nat)(gS:dX s h j)(bt:cI X h P F v):
  aR X 18 [v, .func (.func D) Cq uh] h j (λad T ao=>ad= .tuple []/\dX (BS step s F) T ao/\∀e,P e->aa X T e=aa X h e) (λ_ _ _=>False):=
 aep ax step P dX h (λ_ _=>True) (λ_ _ _ _ _ _ _ _ _ _ _ _ _ _=>trivial) D Cq uh (λs F v h j gS _ bt _=>ra s F v h j gS bt) N F jf s v h j gS trivial bt (λ_ _=>rfl)
end
def f4(X:ck)(h:S ak)(bY:Nat)(p:H)(D:Int)(cY da:H)(f:Int×Int):Prop:=aa X h bY=some (.cells (S.ofList [p, .Z D,cY,da, .Z f.1, .Z f.2] 0 .nil) 6 .own)
def oy(f:Int×Int)(c J:Int):Int×Int:=if f.1=0 then(c,J)else f
section
variable{X:ck}{h T aX aJ:S ak}{j ao aL a6:Nat}
def wp(ax:dv X){bY:Nat}{p cY da:H}{D:Int}{f:Int×Int}(aK:(q X).a7<=bY)(az:f4 X h bY p D cY da f)(c J:Int):
 aR X 119 [.ptr bY 0, .Z c, .Z J] h j (λad T ao=>ad= .tuple []/\f4 X T bY p D cY da (oy f c J)/\j<=ao/\∀e,e≠bY->aa X T e=aa X h e) (λ_ _ _=>False):=by
 refine c4 (afb X) (ax.none _ _ rfl) ?_
 rw[afc]
 unfold TH
 obtain⟨eM,e3⟩:=f
 have anW:=az
 unfold f4 at az
 have gW:am X h (.ptr bY 4)=some (.Z eM):=by rw[bJ az];rfl
 by_cases cj:eM=0
 ·have d:decide (eM=0)=true:=by simp[cj]
  refine hR ⟨?_⟩
  refine hR ⟨?_⟩
  refine hR ⟨?_⟩
  refine cM @gW @d ⟨?_⟩
  refine⟨rfl, ?_,Zi _,λe I=>aE Zo I⟩
  unfold f4 oy
  rw[bh Zo]
  simp only[cj,ZD]
  rfl
 ·have d:decide (eM=0)=false:=by simp[cj]
  refine cM @gW @d ⟨?_⟩
  refine⟨rfl, ?_,Zi _,λ_ _=>rfl⟩
  unfold oy
  simp only[cj,ZB]
  exact anW
def Gi(F:bz):Bool:=decide (F.kind=2)||decide (F.kind=6)||decide (F.kind=24)
def asn(ax:dv X){P:Nat->Prop}{F:bz}{v:H}(bt:cI X h P F v):
 aR X 179 [v] h j (λad T ao=>ad= .bool (Gi F)/\T=h/\j<=ao) (λ_ _ _=>False):=by
 refine c4 (agk X) (ax.none _ _ rfl) ?_
 rw[agl]
 unfold Uk
 obtain⟨b,rfl,ai,a0⟩:=bt.ptr
 by_cases U:F.kind=2
 ·have d:decide (F.kind=2)=true:=by simp[U]
  refine cM @a0 @d ⟨?_⟩
  exact⟨by simp[Gi,U],rfl,Zo⟩
 ·have d:decide (F.kind=2)=false:=by simp[U]
  by_cases cv:F.kind=6
  ·have iR:decide (F.kind=6)=true:=by simp[cv]
   refine eu @a0 @d @iR ⟨?_⟩
   exact⟨by simp[Gi,cv],rfl,Zo⟩
  ·have iR:decide (F.kind=6)=false:=by simp[cv]
   refine eu @a0 @d @iR ⟨?_⟩
   exact⟨by simp[Gi,U,cv],rfl,Zo⟩
end
def ES(F:bx×H×Nat):H×H×Nat:=(.str F.1,F.2.1,F.2.2)
variable{bq:Type}[DecidableEq bq]
def mU:List (bq×H×Nat)->bq->Nat->Option (Nat×H)
 |[],_,_=>none
 |x::dn,w,i=>if x.1=w then some (i,x.2.1)else mU dn w (i+1)
def sq(dn:List (bq×H×Nat))(w:bq):Option H:=(mU dn w 0).map Prod.snd
def Px(w:bq):∀(dn:List (bq×H×Nat)) (i:Nat),mU dn w (i+1)=(mU dn w i).map λp=>(p.1+1,p.2):=by
 intro dn
 induction dn with
 |nil=>intro i;rfl
 |cons x dn al=>
  intro i
  simp only[mU]
  split
  ·rfl
  ·exact al (i+1)
def Bp(x:bq×H×Nat)(dn:List (bq×H×Nat))(w:bq):sq (x::dn) w=if x.1=w then some x.2.1 else sq dn w:=by
 unfold sq
 simp only[mU]
 split
 ·rfl
 ·rw[Px];cases mU dn w 0<;>rfl
def Xe(w:bq):∀(dn:List (bq×H×Nat)) (Y:Nat) (v:H),mU dn w 0=some (Y,v)->∃b,dn[Y]? =some (w,v,b):=by
 intro dn
 induction dn with
 |nil=>intro Y v a;cases a
 |cons x dn al=>
  intro Y v a
  simp only[mU]at a
  split at a
  ·rename_i F
   cases a
   exact⟨x.2.2,by simp[<-F]⟩
  ·rw[Px]at a
   cases cl:mU dn w 0 with
   |none=>rw[cl]at a;cases a
   |some p=>
    rw[cl]at a
    simp at a
    obtain⟨rfl,rfl⟩:=a
    obtain⟨b,ai⟩:=al p.1 p.2 cl
    exact⟨b,by simpa using ai⟩
def acm(w bV:bq)(v:H)(b:Nat):∀dn:List (bq×H×Nat),sq dn w=none->sq (dn++[(w,v,b)]) bV=if bV=w then some v else sq dn bV:=by
 intro dn
 induction dn with
 |nil=>
  intro _
  rw[YF,Bp]
  by_cases a:bV=w
  ·simp[a]
  ·have:¬w=bV:=λF=>a F.symm
   simp[a,this]
 |cons x dn al=>
  intro a
  rw[Bp]at a
  split at a
  ·cases a
  ·rename_i ag
   rw[List.cons_append,Bp,Bp,al a]
   by_cases F:x.1=bV
   ·have:¬bV=w:=λan=>ag (F.trans an)
    simp[F,this]
   ·simp[F]
def acn(w bV:bq)(v:H):∀(dn:List (bq×H×Nat)) (Y:Nat) (v0:H) (b:Nat),mU dn w 0=some (Y,v0)->sq (dn.set Y (w,v,b)) bV=if bV=w then some v else sq dn bV:=by
 intro dn
 induction dn with
 |nil=>intro Y v0 b a;cases a
 |cons x dn al=>
  intro Y v0 b a
  simp only[mU]at a
  split at a
  ·rename_i F
   simp at a
   obtain⟨rfl,rfl⟩:=a
   rw[Z6,Bp,Bp]
   by_cases a:bV=w
   ·simp[a]
   ·have R:¬w=bV:=λan=>a an.symm
    have U:¬x.1=bV:=λan=>a (an.symm.trans F)
    simp[a,R,U]
  ·rename_i F
   rw[Px]at a
   cases cl:mU dn w 0 with
   |none=>rw[cl]at a;cases a
   |some p=>
    rw[cl]at a
    simp at a
    obtain⟨rfl,rfl⟩:=a
    rw[Z7,Bp,Bp,al p.1 p.2 b cl]
    by_cases U:x.1=bV
    ·have:¬bV=w:=λan=>F (U.trans an)
     simp[U,this]
    ·simp[U]
section
variable{X:ck}{h T aX aJ:S ak}{j ao aL a6:Nat}
def om(X:ck)(h:S ak)(r:Nat)(dS:bx->Option H):Prop:=∃dn e6,aa X h r=some (.map (dn.map ES) e6)/\∀w,sq dn w=dS w
def om.ac{r:Nat}{dS:bx->Option H}(a:om X h r dS)(D:aa X T r=aa X h r):om X T r dS:=by
 obtain⟨dn,e6,R,U⟩:=a
 exact⟨dn,e6,by rw[D];exact R,U⟩
def Nl(w:bx):mR X 20 9 (.str w)=true:=Zk
def WT(w bV:bx):jX X h 20 9 (.str w) (.str bV)=some (mE w bV):=Zk
def Pu(w:bx):∀(dn:List (bx×H×Nat)) (i:Nat),findKey X h 9 (.str w) (dn.map ES) i=some (mU dn w i):=by
 intro dn
 induction dn with
 |nil=>intro i;rfl
 |cons x dn al=>
  intro i
  simp only[Yb,ES,findKey,WT,Dx,mU]
  by_cases a:w=x.1
  ·have:x.1=w:=a.symm
   simp[this]
  ·have:¬x.1=w:=λF=>a F.symm
   simp only[a,this,Z8,ZB]
   exact al (i+1)
def aq5(w:bx):nu 20 (.str w) (.str w)=true:=by
 show mE w w=true
 rw[Dx];simp
def Dq{r:Nat}{dS:bx->Option H}(a:om X h r dS)(br:H)(w:bx)(ok:Bool):
 ma X h 9 br (.map r) (.str w) ok=some (match dS w with|some v=>bR ok (.tuple [v, .bool true]) v|none=>bR ok (.tuple [br, .bool false]) br):=by
 obtain⟨dn,e6,R,U⟩:=a
 have ar:=U w
 unfold sq at ar
 simp only[ma,R,Nl,e2,Pu]
 cases cl:mU dn w 0 with
 |none=>rw[cl]at ar;rw[<-ar];rfl
 |some p=>rw[cl]at ar;rw[<-ar];rfl
def M9{r:Nat}{dS:bx->Option H}(Z:(q X).a7<=r)(a:om X h r dS)(w:bx)(v:H):
 ∃T,vj X h j 9 (.map r) (.str w) v=some (.fv bg.undef T j)/\om X T r (λx=>if x=w then some v else dS x)/\∀e,e≠r->aa X T e=aa X h e:=by
 obtain⟨dn,e6,R,U⟩:=a
 have aH:kt X r=true:=lg Z
 cases ce:mU dn w 0 with
 |none=>
  refine⟨Go.bg.bm X h r (some (.map ((dn++[(w,v,e6)]).map ES) (e6+1))), ?_,⟨dn++[(w,v,e6)],e6+1,bh Z,λx=> ?_⟩,λe I=>aE Z I⟩
  ·simp only[vj,R,Nl,e2,Pu,ce,bg.setObj,aH,e2,he]
   rw[Yv]
   rfl
  ·rw[acm _ _ _ _ _ (by unfold sq;rw[ce];rfl),U]
 |some p=>
  obtain⟨Y,v0⟩:=p
  obtain⟨born,ai⟩:=Xe w dn Y v0 ce
  have dI:(dn.map ES)[Y]? =some (.str w,v0,born):=by rw[Zx,ai];rfl
  refine⟨Go.bg.bm X h r (some (.map ((dn.set Y (w,v,born)).map ES) e6)), ?_,⟨dn.set Y (w,v,born),e6,bh Z,λx=> ?_⟩,λe I=>aE Z I⟩
  ·simp only[vj,R,Nl,e2,Pu,ce,pE,dI,aq5,bg.setObj,aH,e2,he]
   rw[List.map_set]
   rfl
  ·rw[acn w x v dn Y v0 born ce,U]
end
end
end Go.Proofs.YtpfajohmofnkfaaGreatDoor

namespace Go.Proofs.YtpfajohmofnkfaaGreatDoor
open Go.bg Go.a2
noncomputable section
structure fQ where
 kind:Int
 d:fP
 eq:Int
 left:Int
def tL:fQ:=⟨0,⟨[],0,dJ,[],0,false⟩,0,0⟩
def pd(v:fQ):List H:=[.Z v.kind, .str v.d.name, .Z v.d.at_, .bool v.d.ty.b, .bool v.d.ty.s, .Z v.d.ty.w, .str v.d.on, .Z v.d.fJ, .bool v.d.no, .Z v.eq, .Z v.left]
def rL(X:ck)(h:S ak)(P:Nat->Prop)(cY:H)(t:bx->Option fQ):Prop:=∃b r,cY= .ptr b 0/\P b/\P r/\am X h (.ptr b 0)=some (.map r)/\om X h r (λw=>(t w).map λv=> .agg (pd v))
section
variable{X:ck}{h T aX aJ:S ak}{j ao aL a6:Nat}
def rL.ac{P bs:Nat->Prop}{cY:H}{t:bx->Option fQ}(a:rL X h P cY t)(D:∀e,P e->aa X T e=aa X h e)(aB:∀e,P e->bs e):rL X T bs cY t:=by
 obtain⟨b,r,R,U,ar,aO,bN⟩:=a
 exact⟨b,r,R,aB b U,aB r ar,by rw[cA,D b U, <-cA];exact aO,bN.ac (D r ar)⟩
def ali(b:Nat):dj X h .eql 68 true (.ptr b 0) .cq=some (.bool false):=Zk
def Lo(ax:dv X){P:Nat->Prop}{cY:H}{t:bx->Option fQ}(aK:(q X).a7<=j)(be:rL X h P cY t)(bu:∀e,P e->e<j)(w:bx):
 aR X 34 [cY, .str w] h j (λad T ao=>ad= .tuple [.agg (pd ((t w).getD tL)), .bool (t w).isSome]/\bj X h j T ao) (λ_ _ _=>False):=by
 refine c4 (ahY X) (ax.none _ _ rfl) ?_
 rw[ahZ]
 unfold U9
 obtain⟨b,r,rfl,ai,Z,a0,bp⟩:=be
 have gg:=bu b ai
 have A4:=bu r Z
 refine pm ?_
 generalize en:bm X h j _=aX
 have b3:aa X aX j=some (.cells (S.ofList [.Z 0, .str [], .Z 0, .bool false, .bool false, .Z 0, .str [], .Z 0, .bool false, .Z 0, .Z 0] 0 .nil) 11 .own):=by rw[<-en,bh aK];rfl
 have bU:bj X h j aX (j+1):=by rw[<-en];exact dM
 clear en
 have bd:am X aX (.ptr b 0)=some (.map r):=by rw[cA,bU.ac b gg, <-cA];exact a0
 have IE:=bp.ac (bU.ac r A4)
 have j5:=Dq IE (.agg [.Z 0, .str [], .Z 0, .bool false, .bool false, .Z 0, .str [], .Z 0, .bool false, .Z 0, .Z 0]) w true
 have Fq:ma X aX 9 (.agg [.Z 0, .str [], .Z 0, .bool false, .bool false, .Z 0, .str [], .Z 0, .bool false, .Z 0, .Z 0]) (.map r) (.str w) true=some (.tuple [.agg (pd ((t w).getD tL)), .bool (t w).isSome]):=by
  rw[j5];cases t w<;>rfl
 clear j5
 generalize (t w).getD tL=v at*
 have sg:pd v=[.Z v.kind, .str v.d.name, .Z v.d.at_, .bool v.d.ty.b, .bool v.d.ty.s, .Z v.d.ty.w, .str v.d.on, .Z v.d.fJ, .bool v.d.no, .Z v.eq, .Z v.left]:=rfl
 rw[sg]at Fq ⊢
 refine eu @ali @bd @Fq ⟨?_⟩
 refine fE (hO (D:=11) (b:=j) (W:=0) (n:=11) (c:=S.ofList [.Z 0, .str [], .Z 0, .bool false, .bool false, .Z 0, .str [], .Z 0, .bool false, .Z 0, .Z 0] 0 .nil) (by simp(disch:=omega) only[aE];exact b3) aK rfl Zd Zd rfl) ?_
 generalize fd:bm X _ j _=aY
 have cQ:aa X aY j=some (.cells (S.ofList [.Z v.kind, .str v.d.name, .Z v.d.at_, .bool v.d.ty.b, .bool v.d.ty.s, .Z v.d.ty.w, .str v.d.on, .Z v.d.fJ, .bool v.d.no, .Z v.eq, .Z v.left] 0 .nil) 11 .own):=by rw[<-fd,bh aK];rfl
 have ca:bj X h j aY (j+1+1):=⟨Zo,λe I=>by rw[<-fd];simp(disch:=omega) only[aE];exact bU.ac e I⟩
 clear fd
 refine ci (bJ cQ) ⟨?_⟩
 exact⟨rfl,ca⟩
end
def RX(t:bx->Option fQ)(ae:bx->Option Int)(f:Int×Int)(w:bx)(J:Int):Int×Int:=match t w with
 |none=>oy f 23 J
 |some v=>if v.kind=1\/1<(ae w).getD 0+1 then oy f 24 J else f
def nM(ae:bx->Option Int)(w:bx):Option H:=(ae w).map λD=> .Z D
section
variable{X:ck}{h T aX aJ:S ak}{j ao aL a6:Nat}
def arB(ax:dv X){P:Nat->Prop}{bY da:Nat}{p cY:H}{D:Int}{t:bx->Option fQ}{ae:bx->Option Int}{f:Int×Int}(aK:(q X).a7<=j)(kw:(q X).a7<=bY)(wS:(q X).a7<=da)(yl:bY<j)(uy:da<j)(AP:bY≠da)
 (az:f4 X h bY p D cY (.map da) f)(be:rL X h P cY t)(bu:∀e,P e->e<j/\e≠bY/\e≠da)(gy:om X h da (nM ae))(w:bx)(J:Int)(ai:0<=(ae w).getD 0/\(ae w).getD 0<4000000000000000000):
 aR X 121 [.ptr bY 0, .str w, .Z J] h j (λad T ao=>ad= .tuple []/\f4 X T bY p D cY (.map da) (RX t ae f w J)/\om X T da (nM λx=>if x=w then some ((ae w).getD 0+1)else ae x)/\j<=ao/\∀e,e<j->e≠bY->e≠da->aa X T e=aa X h e) (λ_ _ _=>False):=by
 refine c4 (aff X) (ax.none _ _ rfl) ?_
 rw[afg]
 unfold TJ
 have c5:am X h (.ptr bY 2)=some cY:=by unfold f4 at az;rw[bJ az];rfl
 refine ci @c5 ⟨?_⟩
 refine(Lo ax aK be (λe I=>(bu e I).1) w).Zm ?_
 rintro ad aX aL ⟨rfl,bU⟩
 have jB:=bU.le
 have th:f4 X aX bY p D cY (.map da) f:=by unfold f4;rw[bU.ac bY yl];exact az
 have am4:=gy.ac (bU.ac da uy)
 generalize bA:(t w).getD tL=v
 have sg:pd v=[.Z v.kind, .str v.d.name, .Z v.d.at_, .bool v.d.ty.b, .bool v.d.ty.s, .Z v.d.ty.w, .str v.d.on, .Z v.d.fJ, .bool v.d.no, .Z v.eq, .Z v.left]:=rfl
 rw[sg]
 refine hR ⟨?_⟩
 refine hR ⟨?_⟩
 refine pm ?_
 refine hR ⟨?_⟩
 generalize dE:bm X _ aL _=aJ
 have b2:aa X aJ aL=some (.cells (S.ofList [.Z v.kind, .str v.d.name, .Z v.d.at_, .bool v.d.ty.b, .bool v.d.ty.s, .Z v.d.ty.w, .str v.d.on, .Z v.d.fJ, .bool v.d.no, .Z v.eq, .Z v.left] 0 .nil) 11 .own):=by rw[<-dE,bh Zo];rfl
 have bE:bj X h j aJ (aL+1):=⟨Zo,λe I=>by rw[<-dE];simp(disch:=omega) only[aE];exact bU.ac e I⟩
 have jh:∀e,e<aL->aa X aJ e=aa X aX e:=λe I=>by rw[<-dE];simp(disch:=omega) only[aE]
 clear dE
 have yk:f4 X aJ bY p D cY (.map da) f:=by unfold f4;rw[jh bY Zo];exact th
 have XP:=am4.ac (jh da Zo)
 have e5:am X aJ (.ptr bY 3)=some (.map da):=by unfold f4 at yk;rw[bJ yk];rfl
 have j5:ma X aJ 9 (.Z 0) (.map da) (.str w) false=some (.Z ((ae w).getD 0)):=by
  rw[Dq XP];unfold nM;cases ae w<;>rfl
 have bB:aA .add (.Z ((ae w).getD 0)) (.Z 1)=some (.Z ((ae w).getD 0+1)):=eI Zo Zo
 refine eu @e5 @j5 @bB ⟨?_⟩
 obtain⟨aY,q7,XQ,nX⟩:=M9 (j:=aL+1) wS XP w (.Z ((ae w).getD 0+1))
 refine kG q7 ?_
 have wQ:f4 X aY bY p D cY (.map da) f:=by unfold f4;rw[nX bY AP];exact yk
 rw[<-nX aL Zo]at b2
 have HY:om X aY da (nM λx=>if x=w then some ((ae w).getD 0+1)else ae x):=by
  have:(λx=>if x=w then some (H.Z ((ae w).getD 0+1))else nM ae x)=(nM λx=>if x=w then some ((ae w).getD 0+1)else ae x):=by
   funext x;unfold nM;by_cases a:x=w<;>simp[a]
  rw[<-this];exact XQ
 have Mh:∀e,e<j->e≠da->aa X aY e=aa X h e:=λe R U=>by rw[nX e U];exact bE.ac e R
 clear j5 q7 XQ e5
 unfold RX
 cases I2:t w with
 |none=>
  simp only[ZZ,Yh]
  refine cH ⟨?_⟩
  refine(wp (j:=aL+1) (h:=aY) ax kw wQ 23 J).Zm ?_
  rintro ad bw c7 ⟨rfl,uw,ji,f1⟩
  refine cH ⟨?_⟩
  exact⟨by first|trivial|rfl,uw,HY.ac (f1 da Zo),Zo,λe R U ar=>by rw[f1 e U];exact Mh e R ar⟩
 |some hI=>
  have Dc:hI=v:=by rw[I2]at bA;exact bA
  subst Dc
  simp only[Z5,Yi]
  have fO:am X aY (.ptr aL 0)=some (.Z hI.kind):=by rw[bJ b2];rfl
  have e5:am X aY (.ptr bY 3)=some (.map da):=by unfold f4 at wQ;rw[bJ wQ];rfl
  have j5:ma X aY 9 (.Z 0) (.map da) (.str w) false=some (.Z ((ae w).getD 0+1)):=by
   rw[Dq HY];unfold nM;simp
  by_cases R:hI.kind=1
  ·have d:decide (hI.kind=1)=true:=by simp[R]
   refine cM @fO @d ⟨?_⟩
   refine(wp (j:=aL+1) (h:=aY) ax kw wQ 24 J).Zm ?_
   rintro ad bw c7 ⟨rfl,uw,ji,f1⟩
   refine cH ⟨?_⟩
   exact⟨by first|trivial|rfl,by simp only[R,true_or,ZD];exact uw,HY.ac (f1 da Zo),Zo,λe R U ar=>by rw[f1 e U];exact Mh e R ar⟩
  ·have d:decide (hI.kind=1)=false:=by simp[R]
   by_cases U:1<(ae w).getD 0+1
   ·have cJ:decide (1<(ae w).getD 0+1)=true:=by simp only[Zg];exact U
    refine f7 @fO @d @e5 @j5 @cJ ⟨?_⟩
    refine(wp (j:=aL+1) (h:=aY) ax kw wQ 24 J).Zm ?_
    rintro ad bw c7 ⟨rfl,uw,ji,f1⟩
    refine cH ⟨?_⟩
    exact⟨by first|trivial|rfl,by simp only[R,U,or_true,ZD];exact uw,HY.ac (f1 da Zo),Zo,λe R U ar=>by rw[f1 e U];exact Mh e R ar⟩
   ·have cJ:decide (1<(ae w).getD 0+1)=false:=by simp only[Zb];exact U
    refine f7 @fO @d @e5 @j5 @cJ ⟨?_⟩
    exact⟨by first|trivial|rfl,by simp only[R,U,Yr,ZB];exact wQ,HY,Zo,λe R U ar=>Mh e R ar⟩
end
end
end Go.Proofs.YtpfajohmofnkfaaGreatDoor

