/- A part of the last text's proof; no condition of its own -/
import Derived.Test.YtpfajohmofnkfaaGreatDoorYl
set_option maxHeartbeats 8000000
set_option linter.all false
namespace Go.Proofs.YtpfajohmofnkfaaGreatDoor
open Go.bk Go.aZ
noncomputable section
def ua(s:bq)(i:Nat):Tok×Bool:=
 let w:=(s.drop i).takeWhile iZ
 (⟨if (lk w).isSome then 3 else if w∈vV then 2 else 1,w,0,0,(lk w).getD dU⟩,decide (w.length<=32))
def adL{l:bq}(a:∀c∈l,iZ c=true):Co l:=by
 intro c aB
 have:=a c aB
 simp[iZ,qG,iK]at this
 omega
def ae0{α:Type}(p:α->Bool):∀l:List α,∀c∈l.takeWhile p,p c=true:=by
 intro l
 induction l with
 |nil=>simp
 |cons K l am=>
  intro c aB
  rw[YD]at aB
  split at aB
  ·rcases Zq.1 aB with rfl|aB
   ·assumption
   ·exact am c aB
  ·simp at aB
section
variable{X:co}{h U a6 aR:V an}{j ar aJ bc ge:Nat}{s:bq}{i:Nat}
def SW(Z:m0 X h ge s i)(ai:∀c∈s,c<256)(aa:Nat)(p:Nat->Bool)(aA:∀c,p c=true->iZ c=true):((s.drop aa).takeWhile p).length<=65536/\(∀c∈(s.drop aa).takeWhile p,c<256)/\Co ((s.drop aa).takeWhile p):=by
 have T:=Et p (s.drop aa)
 rw[Yz]at T
 have:=Z.many
 refine⟨Zo,λc aB=>ai c (Y5 ((List.takeWhile_sublist p).subset aB)),adL λc aB=>aA c (ae0 p _ c aB)⟩
def ayQ(az:iS X)(bX:ma X)(e3:KZ X)(Z:m0 X h ge s i)(ai:∀c∈s,c<256)(aM:(q X).ba<=j)(Jt:ge<j):
 aW X 115 [.ptr ge 0] h j (λae U ar=>ae= .tuple [.agg (cb (ua s i).1), .bool (ua s i).2]/\bh X h j U ar) (λ_ _ _=>False):=by
 refine zv az.todx (agh X) ?_
 rw[agi]
 unfold Us
 have dy:=Z.dy
 have hc:=Z.ei
 obtain⟨cL,cC,d6⟩:=SW Z ai i iZ (λ_ a=>a)
 have vj:∀cO,m0 X (bo X h j cO) ge s i:=λcO=>Z.ad (aG aM Zo)
 refine ce @dy ⟨?_⟩
 refine(N4 az.todx (aeC az.todx) (vj _) Z.le).Zm ?_
 rintro ae aR bc ⟨rfl,rfl,rfl⟩
 unfold ua
 generalize (s.drop i).takeWhile iZ=w at*
 simp only[]
 refine cS ⟨?_⟩
 refine fk (λa6=>ab X a6 j=zs [.Z 0, .str [], .Z 0, .int .u64 0, .bool false, .bool false, .Z 0] 7/\ab X a6 (j+1)=zs [.Z 1, .str w, .Z 0, .int .u64 0, .bool false, .bool false, .Z 0] 7/\bh X h j a6 (j+1+1)) ⟨by simp(disch:=omega) only[aG,bi]<;>rfl,by rw[bi Zo];rfl,dR⟩ ?_
 rintro a6 ⟨b5,cd,bT⟩
 refine(afb az bX cL cC d6 Zo).Zm ?_
 rintro ae a7 bd ⟨rfl,cm⟩
 have ik:=cm.le
 have si:=bT.trans cm
 have c0:ab X a7 j=zs [.Z 0, .str [], .Z 0, .int .u64 0, .bool false, .bool false, .Z 0] 7:=by rw[cm.ad _ Zo];exact b5
 have el:ab X a7 (j+1)=zs [.Z 1, .str w, .Z 0, .int .u64 0, .bool false, .bool false, .Z 0] 7:=by rw[cm.ad _ Zo];exact cd
 generalize bb:(lk w).getD dU=t
 have Ga:dn t=[.bool t.b, .bool t.s, .Z t.w]:=rfl
 rw[Ga]
 have sa:decide ((w.length:Int)<=32)=decide (w.length<=32):=by simp;omega
 have fin:∀(b4:V an) (dH:Nat) (F:Int) (hr:dJ) (ux:V J),bd<=dH->bh X h j b4 dH->ab X b4 (j+1)=some (.cells ux 7 .own)->ab X b4 j=zs [.Z 0, .str [], .Z 0, .int .u64 0, .bool false, .bool false, .Z 0] 7->
  ux.get 0=some (.Z F)->ux.get 1=some (.str w)->ux.get 2=some (.Z 0)->ux.get 3=some (.int .u64 0)->ux.get 4=some (.bool hr.b)->ux.get 5=some (.bool hr.s)->ux.get 6=some (.Z hr.w)->
  E (bM X b4 7 (.ptr (j+1) 0)) λayt=>E (l1 (.str w)) λayu=>E (aC .leq ayu (.Z 32)) λayv=>E (b8 X b4 7 (.ptr j 0) ayt) λWp=>E (bM X Wp 7 (.ptr j 0)) λv37=>
   J.tuple [v37,ayv]= .tuple [.agg (cb ⟨F,w,0,0,hr⟩), .bool (decide (w.length<=32))]/\bh X h j Wp dH:=by
  intro b4 dH F hr ux aAo dV d8 eQ vt bY cx c7 d5 er dK
  have fY:=j1 d8 vt;have en:=j1 d8 bY;have c5:=j1 d8 cx;have eV:=j1 d8 c7;have g2:=j1 d8 d5;have gM:=j1 d8 er;have mQ:=j1 d8 dK
  refine eu @fY @en @c5 @eV @g2 @gM (Za @mQ @sa) ⟨?_⟩
  exact⟨rfl,bh.set dV (Zl _) aM (Zl _)⟩
 cases ss:(lk w).isSome with
 |true=>
  refine h5 ⟨?_⟩
  refine h5 ⟨?_⟩
  refine h5 ⟨?_⟩
  refine h5 ⟨?_⟩
  refine h5 ⟨?_⟩
  generalize eB:bo X _ bd _=bw
  have fK:ab X bw bd=zs [.bool t.b, .bool t.s, .Z t.w] 3:=by rw[<-eB,bi Zo];rfl
  have d8:ab X bw j=zs [.Z 0, .str [], .Z 0, .int .u64 0, .bool false, .bool false, .Z 0] 7:=by rw[<-eB];simp(disch:=omega) only[aG];exact c0
  have eQ:ab X bw (j+1)=zs [.Z 1, .str w, .Z 0, .int .u64 0, .bool false, .bool false, .Z 0] 7:=by rw[<-eB];simp(disch:=omega) only[aG];exact el
  have dj:bh X h j bw (bd+1):=si.trans (by rw[<-eB];exact dR)
  clear eB c0 el
  refine ce (bR fK) ⟨?_⟩
  refine gs (by simp[J.same,nK,pt]) ?_
  generalize jU:bo X bw (j+1) _=bS
  have bK:∀e,e≠j+1->ab X bS e=ab X bw e:=λe H=>by rw[<-jU,aG Zo H]
  have h4:ab X bS (j+1)=some (.cells (d3 (V.ofList [.Z 1, .str w, .Z 0, .int .u64 0, .bool false, .bool false, .Z 0] 0 .nil) 0 [.Z 3]) 7 .own):=by rw[<-jU,bi Zo];rfl
  rw[<-bK _ Zo]at fK d8
  have dF:bh X h j bS (bd+1):=⟨dj.le,λe H=>by rw[bK e Zo];exact dj.ad e H⟩
  clear jU bK eQ
  refine fS (im (F:=3) (b:=j+1) (Y:=4) (n:=7) h4 Zo rfl Zd Zd rfl) ?_
  generalize gd:bo X bS (j+1) _=b4
  have cr:∀e,e≠j+1->ab X b4 e=ab X bS e:=λe H=>by rw[<-gd,aG Zo H]
  have mG:ab X b4 (j+1)=some (.cells (d3 (d3 (V.ofList [.Z 1, .str w, .Z 0, .int .u64 0, .bool false, .bool false, .Z 0] 0 .nil) 0 [.Z 3]) 4 [.bool t.b, .bool t.s, .Z t.w]) 7 .own):=by rw[<-gd,bi Zo];rfl
  rw[<-cr _ Zo]at d8
  have dV:bh X h j b4 (bd+1+5):=⟨zo dF.le,λe H=>by rw[cr e Zo];exact dF.ad e H⟩
  clear gd cr h4
  have:=fin b4 (bd+1+5) 3 t _ Zo dV mG d8 rfl rfl rfl rfl rfl rfl rfl
  simp only[ZD]
  refine h5 ⟨?_⟩
  exact this
 |false=>
  have R7:t=dU:=by
   rw[<-bb]
   cases b6:lk w with
   |none=>rfl
   |some t=>rw[b6]at ss;cases ss
  refine cS ⟨?_⟩
  refine fk (λbw=>bh X a7 bd bw (bd+1)) dR ?_
  intro bw dj
  have yB:=si.trans dj
  have d8:ab X bw j=zs [.Z 0, .str [], .Z 0, .int .u64 0, .bool false, .bool false, .Z 0] 7:=by rw[dj.ad _ Zo];exact c0
  have eQ:ab X bw (j+1)=zs [.Z 1, .str w, .Z 0, .int .u64 0, .bool false, .bool false, .Z 0] 7:=by rw[dj.ad _ Zo];exact el
  refine(awn (j:=bd+1) (h:=bw) az.todx e3 w).Zm ?_
  rintro ae bS cj ⟨rfl,rfl,rfl⟩
  subst R7
  simp only[Zx,ZA]
  by_cases lW:w∈vV
  ·simp only[lW,Yo,ZD]
   refine h5 ⟨?_⟩
   refine h5 ⟨?_⟩
   refine h5 ⟨?_⟩
   refine fS (im (F:=1) (b:=j+1) (Y:=0) (n:=7) eQ Zo rfl Zd Zd rfl) ?_
   generalize gd:bo X _ (j+1) _=b4
   have cr:∀e,e≠j+1->ab X b4 e=ab X bS e:=λe H=>by rw[<-gd,aG Zo H]
   have mG:ab X b4 (j+1)=some (.cells (d3 (V.ofList [.Z 1, .str w, .Z 0, .int .u64 0, .bool false, .bool false, .Z 0] 0 .nil) 0 [.Z 2]) 7 .own):=by rw[<-gd,bi Zo];rfl
   rw[<-cr _ Zo]at d8
   have dV:bh X h j b4 (bd+1):=⟨yB.le,λe H=>by rw[cr e Zo];exact yB.ad e H⟩
   have:=fin b4 (bd+1) 2 dU _ Zo dV mG d8 rfl rfl rfl rfl rfl rfl rfl
   refine h5 ⟨?_⟩
   exact this
  ·simp only[lW,Z9,ZA]
   have:=fin bS (bd+1) 1 dU _ Zo yB eQ d8 rfl rfl rfl rfl rfl rfl rfl
   refine h5 ⟨?_⟩
   refine h5 ⟨?_⟩
   refine h5 ⟨?_⟩
   exact this
end
def DY(s:bq)(i:Nat):Option Tok:=
 let d:=(s.drop i).takeWhile iK
 if (kx d).2≠0\/20<d.length then none
 else
  let Tw:=(s.drop (i+d.length)).takeWhile iZ
  if Tw=[]then some ⟨4,d,0,(kx d).1,dU⟩
  else match lk Tw with
   |some t=>if !t.b&&vg t (kx d).1 then some ⟨5,d++Tw,0,(kx d).1,t⟩else none
   |none=>none
def TX:∀{w:bq}{t:dJ},lk w=some t->kL t=true:=by
 intro w t a
 cases w with
 |nil=>cases a
 |cons c l=>
  by_cases ai:c::l=[98,111,111,108]
  ·rw[Om,Zr ai]at a
   cases a
   rfl
  ·obtain⟨_,n,T,W,_,rfl⟩:=KF a ai
   simp[kL];omega
section
variable{X:co}{h U a6 aR:V an}{j ar aJ bc ge:Nat}{s:bq}{i:Nat}
def auQ(az:iS X)(bX:ma X)(Z:m0 X h ge s i)(ai:∀c∈s,c<256)(aM:(q X).ba<=j)(Jt:ge<j):
 aW X 113 [.ptr ge 0] h j (λae U ar=>(∃F,ae= .tuple [.agg (cb F), .bool (DY s i).isSome]/\∀x,DY s i=some x->F=x)/\bh X h j U ar) (λ_ _ _=>False):=by
 refine zv az.todx (agc X) ?_
 rw[agd]
 unfold Uq
 have dy:=Z.dy
 have hc:=Z.ei
 have ls:=Z.le
 have aAK:=Z.many
 obtain⟨cL,cC,d6⟩:=SW Z ai i iK (λc a=>by simp[iZ,a])
 have ue:=Et iK (s.drop i)
 rw[Yz]at ue
 have vj:∀cO,m0 X (bo X h j cO) ge s i:=λcO=>Z.ad (aG aM Zo)
 refine ce @dy ⟨?_⟩
 refine(N4 az.todx (awB az.todx) (vj _) Z.le).Zm ?_
 rintro ae aR bc ⟨rfl,rfl,rfl⟩
 generalize jT:DY s i=N
 unfold DY at jT
 simp only[]at jT
 generalize (s.drop i).takeWhile iK=d at*
 refine cS ⟨?_⟩
 refine fk (λa6=>ab X a6 j=zs [.Z 0, .str [], .Z 0, .int .u64 0, .bool false, .bool false, .Z 0] 7/\bh X h j a6 (j+1)) ⟨by simp(disch:=omega) only[aG,bi]<;>rfl,dR⟩ ?_
 rintro a6 ⟨b5,bT⟩
 refine(avt az bX cL cC Zo).Zm ?_
 rintro ae a7 bd ⟨⟨I,rfl,bA⟩,cm⟩
 have ik:=cm.le
 have si:=bT.trans cm
 have c0:ab X a7 j=zs [.Z 0, .str [], .Z 0, .int .u64 0, .bool false, .bool false, .Z 0] 7:=by rw[cm.ad _ Zo];exact b5
 have yU:=Z.ad (si.ad ge Jt)
 have aBr:J.agg [.Z 0, .str [], .Z 0, .int .u64 0, .bool false, .bool false, .Z 0]= .agg (cb g6):=rfl
 rcases bA with ⟨ch,rfl⟩|⟨ch,b,rfl⟩
 ·by_cases fL:20<d.length
  ·rw[Zr (.inr fL)]at jT
   subst jT
   have c3:decide ((20:Int)<(d.length:Int))=true:=by simp only[Zg];omega
   refine c1 @DT @c3 ⟨?_⟩
   exact⟨⟨g6,rfl,λx a=>by cases a⟩,bh.set si Zo aM Zo⟩
  have c3:decide ((20:Int)<(d.length:Int))=false:=by simp only[Zb];omega
  rw[Zh (by rintro(a|a);exact a ch;exact fL a)]at jT
  have hk:=yU.dy
  have bH:aC .add (.Z (i:Int)) (.Z (d.length:Int))=some (.Z ((i+d.length:Nat):Int)):=by rw[eL Zo Zo];rfl
  refine gl @DT @c3 @hk @bH ⟨?_⟩
  refine(N4 az.todx (aeC az.todx) yU Zo).Zm ?_
  rintro ae bw db ⟨rfl,rfl,rfl⟩
  obtain⟨fJ,hp,uc⟩:=SW yU ai (i+d.length) iZ (λ_ a=>a)
  generalize (s.drop (i+d.length)).takeWhile iZ=w at*
  by_cases bI:w=[]
  ·have cQ:decide (w=[])=true:=by simp[bI]
   rw[Zr bI]at jT
   subst jT
   refine ce @cQ ⟨?_⟩
   exact⟨⟨⟨4,d,0,(kx d).1,dU⟩,rfl,λx a=>by cases a;rfl⟩,bh.set si Zo aM Zo⟩
  have cQ:decide (w=[])=false:=by simp[bI]
  rw[Zh bI]at jT
  refine ce @cQ ⟨?_⟩
  refine(afb az bX fJ hp uc Zo).Zm ?_
  rintro ae bS cj ⟨rfl,dF⟩
  have il:=dF.le
  have fK:ab X bS j=zs [.Z 0, .str [], .Z 0, .int .u64 0, .bool false, .bool false, .Z 0] 7:=by rw[dF.ad _ Zo];exact c0
  have CY:=si.trans dF
  generalize bb:(lk w).getD dU=t
  have Ga:dn t=[.bool t.b, .bool t.s, .Z t.w]:=rfl
  rw[Ga]
  refine h5 ⟨?_⟩
  refine h5 ⟨?_⟩
  refine h5 ⟨?_⟩
  refine h5 ⟨?_⟩
  refine h5 ⟨?_⟩
  generalize gd:bo X _ cj _=b4
  have d8:ab X b4 cj=zs [.bool t.b, .bool t.s, .Z t.w] 3:=by rw[<-gd,bi Zo];rfl
  have eQ:ab X b4 j=zs [.Z 0, .str [], .Z 0, .int .u64 0, .bool false, .bool false, .Z 0] 7:=by rw[<-gd];simp(disch:=omega) only[aG];exact fK
  have dV:bh X h j b4 (cj+1):=CY.trans (by rw[<-gd];exact dR)
  clear gd fK c0 b5
  have tl:∀h,dc X h .add 9 false (.str d) (.str w)=some (.str (d++w)):=λh=>by
   have:Nat.ble (d.length+w.length) 1000000000=true:=ln Zo
   simp only[dc,AK,this,e6]
  have TG:∀ak:Prop,ak->gi (.str (d++w)) (some (.str (d++w))) ak:=λak a=>gs (by simp[J.same,DS]) a
  have Ky:∀ak:Prop,ak->gi (.agg [.bool t.b, .bool t.s, .Z t.w]) (some (.agg [.bool t.b, .bool t.s, .Z t.w])) ak:=λak a=>gs (by simp[J.same,nK,pt]) a
  have ft:cb ⟨5,d++w,0,(kx d).1,t⟩=[.Z 5, .str (d++w), .Z 0, .int .u64 (kx d).1, .bool t.b, .bool t.s, .Z t.w]:=rfl
  cases ss:lk w with
  |none=>
   rw[ss]at jT
   simp only[]at jT
   subst jT
   simp only[Z1]
   refine c1 @tl (bR d8) ⟨?_⟩
   refine TG _ ?_
   refine c1 @tl (bR d8) ⟨?_⟩
   refine Ky _ ?_
   refine cS ⟨?_⟩
   refine⟨⟨⟨5,d++w,0,(kx d).1,t⟩, ?_,λx a=>by cases a⟩,bh.set dV Zo aM Zo⟩
   rw[ft]
  |some hr=>
   have JA:hr=t:=by rw[ss]at bb;exact bb
   subst JA
   have aqx:=TX ss
   rw[ss]at jT
   simp only[]at jT
   cases lY:hr.b with
   |true=>
    rw[lY]at jT d8 ft Ky
    simp only[Yi,Bool.false_and,Zx,ZA]at jT
    subst jT
    simp only[Z1,Z3]
    refine c1 @tl (bR d8) ⟨?_⟩
    refine TG _ ?_
    refine c1 @tl (bR d8) ⟨?_⟩
    refine Ky _ ?_
    refine cS ⟨?_⟩
    refine⟨⟨⟨5,d++w,0,(kx d).1,hr⟩, ?_,λx a=>by cases a⟩,bh.set dV Zo aM Zo⟩
    rw[ft]
   |false=>
    rw[lY]at jT d8 ft Ky
    simp only[Yg,Bool.true_and]at jT
    simp only[Z3]
    refine c1 @tl (bR d8) ⟨?_⟩
    have aB:=aqQ (j:=cj+1+19) (h:=b4) az.todx hr aqx ((kx d).1:Int) Zo
    have arV:dn hr=[.bool false, .bool hr.s, .Z hr.w]:=by rw[<-lY];rfl
    rw[arV]at aB
    refine aB.Zm ?_
    rintro ae cu e1 ⟨rfl,e7⟩
    have nE:=e7.le
    have h4:ab X cu cj=zs [.bool false, .bool hr.s, .Z hr.w] 3:=by rw[e7.ad _ Zo];exact d8
    have mG:ab X cu j=zs [.Z 0, .str [], .Z 0, .int .u64 0, .bool false, .bool false, .Z 0] 7:=by rw[e7.ad _ Zo];exact eQ
    have L7:bh X h j cu e1:=⟨zo dV.le,λe H=>by rw[e7.ad e (zo dV.le)];exact dV.ad e H⟩
    have aoZ:N.isSome=vg hr ((kx d).1:Int):=by
     rw[<-jT];cases vg hr ((kx d).1:Int)<;>rfl
    rw[aoZ]
    refine ce @tl ⟨?_⟩
    refine TG _ ?_
    refine ce (bR h4) ⟨?_⟩
    refine Ky _ ?_
    refine cS ⟨?_⟩
    refine⟨⟨⟨5,d++w,0,(kx d).1,hr⟩, ?_,λx a=> ?_⟩,bh.set L7 Zo aM Zo⟩
    ·rw[ft]
    ·rw[<-jT]at a
     split at a
     ·cases a;rfl
     ·cases a
 ·rw[Zr (.inl ch)]at jT
  subst jT
  refine ce @adB ⟨?_⟩
  exact⟨⟨g6,rfl,λx a=>by cases a⟩,bh.set si Zo aM Zo⟩
end
def Ak:List bq:=[[45,62],[60,60],[62,62],[60,61],[62,61],[60,62],[40],[41],[44],[59],[58],[61],[60],[62],[43],[45],[42]]
structure OM(X:co):Prop where
 at_:∀h,bM X h 17 (.ptr 1 0)=some (.agg (Ak.map J.str))
def IP(s p:bq):Bool:=decide (p.length<=s.length/\s.take p.length=p)
def vY(s:bq)(i:Nat):Option bq:=Ak.find? (IP (s.drop i))
def Ei(p:bq):Tok:=⟨6,p,0,0,dU⟩
def X5{α:Type}(p:α->Bool):∀(l:List α) (aa:Nat),(∀F<aa,∀x,l[F]? =some x->p x=false)->l.find? p=(l.drop aa).find? p:=by
 intro l aa
 induction aa with
 |zero=>intro _;rfl
 |succ aa am=>
  intro a
  rw[am λF aL=>a F Zo]
  by_cases bL:aa<l.length
  ·rw[Zw bL,zg]
   have:=a aa Zo l[aa] (Ze bL)
   rw[this]
  ·rw[ZH Zo,ZH Zo]
section
variable{X:co}{h U a6 aR:V an}{j ar aJ bc ge:Nat}{s:bq}{i:Nat}
def axe(az:iS X)(e3:OM X)(Z:m0 X h ge s i)(aM:(q X).ba<=j)(Jt:ge<j):
 aW X 111 [.ptr ge 0] h j (λae U ar=>ae= .tuple [.agg (cb (match vY s i with|some p=>Ei p|none=>g6)), .bool (vY s i).isSome]/\bh X h j U ar) (λ_ _ _=>False):=by
 refine zv az.todx (af8 X) ?_
 rw[af9]
 unfold Uo
 have hc:=Z.ei
 have jq:kn (.str s) (some (.Z (i:Int))) none=some (.str (s.drop i)):=N9 .i64 Z.le
 have b0:=e3.at_
 refine ce @b0 ⟨?_⟩
 have b5:ab X (bo X h j (zs [.Z 0, .str [], .Z 0, .int .u64 0, .bool false, .bool false, .Z 0] 7)) j=zs [.Z 0, .str [], .Z 0, .int .u64 0, .bool false, .bool false, .Z 0] 7:=bi aM
 have bT:bh X h j (bo X h j (zs [.Z 0, .str [], .Z 0, .int .u64 0, .bool false, .bool false, .Z 0] 7)) (j+1):=dR
 refine fC (λm M U aV=>∃(aa:Nat),M.g 0=some (.ptr ge 0)/\M.g 2=some (.ptr j 0)/\M.g 6=some (.agg (Ak.map J.str))/\M.g 7=some (.Z (aa:Int))/\aa+m=17/\ab X U j=zs [.Z 0, .str [], .Z 0, .int .u64 0, .bool false, .bool false, .Z 0] 7/\bh X h j U aV/\j+1<=aV/\∀F<aa,∀x,Ak[F]? =some x->IP (s.drop i) x=false)
  17 ⟨0,bp,bp,bp,fQ,Zo,b5,bT,Zl _,λF aL=>Zo⟩ ?_
 clear b5 bT
 rintro m M aR bc ⟨aa,t0,eF,gt,fo,bL,cd,bC,k6,m9⟩
 have fN:=Z.ad (bC.ad ge Jt)
 have ee:=fN.ee
 have dy:=fN.dy
 cases m with
 |zero=>
  have d:decide ((aa:Int)<17)=false:=by simp only[Zb];omega
  have b9:vY s i=none:=by
   unfold vY
   rw[X5 _ _ aa m9,show Ak.drop aa=[] from ZH (by show 17<=aa;omega)]
   rfl
  rw[b9]
  refine d9 @fo @d @eF ⟨?_⟩
  exact⟨rfl,bh.set bC Zo aM Zo⟩
 |succ m=>
  have d:decide ((aa:Int)<17)=true:=by simp only[Zg];omega
  have bH:=zt aa
  obtain⟨p,aA⟩:∃p,Ak[aa]? =some p:=⟨_,Ze (by show aa<17;omega)⟩
  have dQ:qI false 17 1 (.agg (Ak.map J.str)) (.Z (aa:Int))=some (.str p):=by
   have:Nat.blt aa 17=true:=by simp[Nat.blt];omega
   simp only[qI,qO,this,e6,jz,pn,Yh,Zt,aA];rfl
  refine eu @fo @gt @t0 @d @dQ @ee (Za @dy @jq) ⟨?_⟩
  refine(aeh az.todx (s.drop i) p).Zm ?_
  rintro ae a7 bd ⟨rfl,rfl,rfl⟩
  have od:decide (p.length<=(s.drop i).length/\(s.drop i).take p.length=p)=IP (s.drop i) p:=rfl
  rw[od]
  cases gK:IP (s.drop i) p with
  |true=>
   have b9:vY s i=some p:=by
    unfold vY
    obtain⟨ah,H⟩:=Zc.1 aA
    have aO:Ak.drop aa=p::Ak.drop (aa+1):=by rw[Zw ah,H]
    rw[X5 _ _ aa m9,aO,zg,gK]
   rw[b9]
   refine ce @eF ⟨?_⟩
   exact⟨rfl,bh.set bC Zo aM Zo⟩
  |false=>
   refine c1 @fo @bH ⟨?_⟩
   refine⟨m,Zo,aa+1,aQ t0,aQ eF,aQ gt,bp,Zo,cd,⟨Zo,bC.ad⟩,Zo,λF aL x ah=> ?_⟩
   by_cases MG:F=aa
   ·subst MG;rw[aA]at ah;cases ah;exact gK
   ·exact m9 F Zo x ah
end
def xV(s:bq)(i:Nat):Option Tok:=match s[i]? with
 |none=>none
 |some c=>if iK c then DY s i else if qG c then(if (ua s i).2 then some (ua s i).1 else none)else(vY s i).map Ei
def lL(x:Tok)(i:Nat):Tok:=⟨x.kind,x.text,i,x.n,x.ty⟩
def qX(s:bq):Nat->List Tok->Nat->Option (Except Int (List Tok))
 |0,_,_=>none
 |n+1,aY,i=>if i<s.length then match xV s i with
   |none=>some (.error i)
   |some x=>qX s n (aY++[lL x i]) (n2 s s.length (i+x.text.length))
  else some (.ok (aY++[⟨7,[],i,0,dU⟩]))
def Pm(s:bq):∀(n i:Nat),i<=n2 s n i:=by
 intro n
 induction n with
 |zero=>intro i;exact Zl _
 |succ n am=>
  intro i
  rw[n2]
  split
  ·exact Zl _
  ·split
   ·exact Zz Zo (am (i+1))
   ·split
    ·exact Zz Zo (am _)
    ·exact Zl _
def TW{s:bq}{i:Nat}{x:Tok}(a:xV s i=some x):1<=x.text.length/\i+x.text.length<=s.length:=by
 unfold xV at a
 cases aB:s[i]? with
 |none=>rw[aB]at a;cases a
 |some c=>
  rw[aB]at a
  simp only[]at a
  obtain⟨ah,H⟩:=Zc.1 aB
  have aO:s.drop i=c::s.drop (i+1):=by rw[Zw ah,H]
  have aD:(s.drop i).length=s.length-i:=Yz
  split at a
  ·rename_i pW
   have T:=Et iK (s.drop i)
   have W:1<=((s.drop i).takeWhile iK).length:=by rw[aO,YD,pW];simp
   unfold DY at a
   simp only[]at a
   generalize (s.drop i).takeWhile iK=d at*
   split at a
   ·cases a
   ·have au:=Et iZ (s.drop (i+d.length))
    rw[Yz]at au
    split at a
    ·cases a;exact⟨W,by show i+d.length<=_;omega⟩
    ·split at a
     ·split at a
      ·cases a
       refine⟨?_, ?_⟩
       ·show 1<=(d++_).length;rw[ZO];omega
       ·show i+(d++_).length<=_;rw[ZO];omega
      ·cases a
     ·cases a
  ·split at a
   ·rename_i yH
    have T:=Et iZ (s.drop i)
    have W:1<=((s.drop i).takeWhile iZ).length:=by rw[aO,YD,show iZ c=true from by simp[iZ,yH]];simp
    split at a
    ·cases a
     exact⟨W,by show i+((s.drop i).takeWhile iZ).length<=_;omega⟩
    ·cases a
   ·simp only[Yn]at a
    obtain⟨p,T,rfl⟩:=a
    have W:=List.find?_some T
    have au:=List.mem_of_find?_eq_some T
    simp[IP]at W
    refine⟨?_, ?_⟩
    ·show 1<=p.length
     revert au
     clear T W
     revert p
     decide
    ·show i+p.length<=_;omega
def d1.narrow{C:a2}{h:V an}{P:Nat->Prop}{b br:Nat}{a8:J}{bF:List (List J)}(a:d1 C h P b a8 br bF):d1 C h (λe=>e=b) b a8 br bF:=⟨λ_=>rfl,a.many,a.wide,a.len,a.e9,a.cell⟩
section
variable{X:co}{h U a6 aR:V an}{j ar aJ bc ge:Nat}{s:bq}{i:Nat}
structure Hu(X:co):Prop where
 err:ma X
 res:KZ X
 sig:OM X
def Wr(X:co)(j:Nat)(r:Except Int (List Tok))(ae:J)(U:V an)(ar:Nat):Prop:=match r with
 | .error K=>ae= .tuple [.aU, .agg [.Z 20, .Z K]]
 | .ok aY=>∃av bN,ae= .tuple [av, .agg [.Z 0, .Z 0]]/\d1 X U (λe=>e=bN) bN av 7 (aY.map cb)/\j<=bN/\bN<ar
def ako(az:iS X)(e3:Hu X)(aI:s.length<=65536)(ai:∀c∈s,c<256)(aM:(q X).ba<=j){a0:J}(aD:dI a0=some (.Z (s.length:Int)))(C7:∀U aV,bh X h j U aV->AR X U a0=some (.str s))
 {r:Except Int (List Tok)}(Z:qX s (s.length+1) [] (n2 s s.length 0)=some r):
 aW X 66 [a0] h j (λae U ar=>Wr X j r ae U ar/\bh X h j U ar) (λ_ _ _=>False):=by
 refine zv az.todx (ajn X) ?_
 rw[ajo]
 unfold V7
 have m4:decide ((65536:Int)<(s.length:Int))=false:=by simp only[Zb];omega
 have sm:=C7 (bo X h j (zs [.Z 0, .Z 0] [J.Z 0, .Z 0].length)) (j+1) dR
 refine c1 @aD @m4 ⟨?_⟩
 refine fS sm ?_
 refine cS ⟨?_⟩
 refine fk (λa6=>ab X a6 j=zs [.Z 0, .Z 0] 2/\ab X a6 (j+1)=zs [.str s, .Z ((0:Nat):Int)] 2/\bh X h j a6 (j+1+1)) ⟨by simp(disch:=omega) only[aG,bi]<;>rfl,by rw[bi Zo];rfl,dR⟩ ?_
 rintro a6 ⟨b5,cd,bT⟩
 have vj:m0 X a6 (j+1) s 0:=⟨cd,Zo,aI,Zo⟩
 refine(W0 az vj ai Zo Zo).Zm ?_
 rintro ae aR bc ⟨fN,dz⟩
 have f5:=dz.le
 have c0:ab X aR j=zs [.Z 0, .Z 0] 2:=by rw[dz.ad _ Zo Zs];exact b5
 have bC:bh X h j aR bc:=⟨Zo,λe H=>by rw[dz.ad e Zo (by simp;omega)];exact bT.ad e H⟩
 refine gX ?_
 refine fC (λm M U aV=>∃(a8:J) (aY:List Tok) (cM:List Nat) (aa:Nat),M.g 3=some (.ptr j 0)/\M.g 4=some (.ptr (j+1) 0)/\M.g 5=some a8/\ab X U j=zs [.Z 0, .Z 0] 2/\m0 X U (j+1) s aa/\gC X U a8 7 (aY.map cb).flatten cM/\(∀e∈cM,j+2<=e/\e<aV)/\bh X h j U aV/\j+2<=aV/\aY.length<=aa/\qX s m aY aa=some r)
  (s.length+1) ⟨.aU,[],[],_,bp,bp,bp,c0,fN, .inl (.inl ⟨rfl,rfl,rfl⟩),Zs,bC,Zo,Zs,Z⟩ ?_
 clear Z b5 cd c0 vj fN bT bC dz f5 sm
 rintro m M aR bc ⟨a8,aY,cM,aa,t3,t4,t5,cd,fN,vk,nA,bC,k6,aAM,Z⟩
 have ee:=fN.ee
 have dy:=fN.dy
 have u7:=fN.le
 cases m with
 |zero=>cases Z
 |succ m=>
 rw[qX]at Z
 have abw:∀r∈aY.map cb,r.length=7:=λr a=>by obtain⟨x,_,rfl⟩:=ZJ.1 a;rfl
 have qx:=wW abw
 rw[Zi]at qx
 have WK:∀(a7:V an) (bd b:Nat) (x:Tok),(∀e∈cM,ab X a7 e=ab X aR e)->bc<=bd->ab X a7 b=zs (cb x) 7->
  ∃hL bw gG,is X a7 bd 7 a8 (.slice b 0 1 1)=some (.fE hL bw (bd+1))/\kC X bw hL 7 ((aY++[x]).map cb).flatten gG/\(∀e∈gG,e=bd\/e∈cM)/\∀e,e≠bd->e∉cM->ab X bw e=ab X a7 e:=by
  intro a7 bd b x aL yP Ml
  have ki:lh X a7 7 (.slice b 0 1 1)=some (1,cb x):=s2 Ml (og _) rfl _
  obtain⟨hL,bw,gG,T,W,au,aP⟩:=(vk.ad aL).append (j:=bd) Zd ki rfl Zd rfl (by rw[qx,show(cb x).length=7 from rfl];omega) Zo (λe H=>zo (nA e H))
  refine⟨hL,bw,gG,T, ?_,au,aP⟩
  rw[Yw,zc,ZR,List.map_nil,Yp,List.flatten_nil,Yx]
  exact W
 by_cases bL:aa<s.length
 ·have c3:=zq aa s.length
  rw[Zr bL]at Z
  obtain⟨c,aB⟩:∃c,s[aa]? =some c:=⟨_,Ze bL⟩
  have dQ:=BE .i64 aB
  have Mq:=ai c (Zn aB)
  refine hm @t4 @ee (Za @dy (Za @c3 @dQ)) ⟨?_⟩
  refine gX ?_
  refine hm @t4 @ee (Za @dy (Za @c3 @dQ)) ⟨?_⟩
  refine gX ?_
  refine hm @t4 @ee (Za @dy (Za @c3 @dQ)) ⟨?_⟩
  have rd:∀(F:Nat),(iK c=true->F=113)->(iK c=false->qG c=true->F=115)->(iK c=false->qG c=false->F=111)->∀GS,bc<=GS->
   aW X F [.ptr (j+1) 0] aR GS (λae U aV=>(∃x,ae= .tuple [.agg (cb x), .bool (xV s aa).isSome]/\∀e,xV s aa=some e->x=e)/\bh X aR GS U aV) (λ_ _ _=>False):=by
   intro F bY cx c7 GS aAw
   unfold xV
   rw[aB]
   simp only[]
   cases pW:iK c with
   |true=>
    rw[bY pW]
    simp only[ZD]
    exact auQ az e3.err fN ai Zo Zo
   |false=>
    simp only[Zx,ZA]
    cases yH:qG c with
    |true=>
     rw[cx pW yH]
     simp only[ZD]
     refine(ayQ az e3.err e3.res fN ai Zo Zo).Zm ?_
     rintro ae U aV ⟨rfl,bX⟩
     refine⟨⟨(ua s aa).1, ?_,λe a=> ?_⟩,bX⟩
     ·cases(ua s aa).2<;>rfl
     ·split at a
      ·cases a;rfl
      ·cases a
    |false=>
     rw[c7 pW yH]
     simp only[Zx,ZA]
     refine(axe az e3.sig fN Zo Zo).Zm ?_
     rintro ae U aV ⟨rfl,bX⟩
     refine⟨⟨(match vY s aa with|some p=>Ei p|none=>g6), ?_,λe a=> ?_⟩,bX⟩
     ·cases vY s aa<;>rfl
     ·cases b6:vY s aa with
      |none=>rw[b6]at a;cases a
      |some p=>rw[b6]at a;cases a;rfl
  refine j0 (λc8 U aV=>∃F,c8.g 3=some (.ptr j 0)/\c8.g 4=some (.ptr (j+1) 0)/\c8.g 5=some a8/\c8.g 6=some (.func (.func F) [.ptr (j+1) 0] [])/\U=aR/\bc<=aV/\(iK c=true->F=113)/\(iK c=false->qG c=true->F=115)/\(iK c=false->qG c=false->F=111)) (λaAZ Rq=> ?_) ?_
  ·refine(PJ az.todx c).Zm ?_
   rintro ae a7 bd ⟨rfl,rfl,rfl⟩
   cases pW:iK c with
   |true=>
    refine ce @t4 ⟨?_⟩
    exact Rq _ _ _ ⟨113,aQ t3,aQ t4,aQ t5,bp,rfl,Zo,λ_=>rfl,(λa=>absurd a (by simp[pW])),(λa=>absurd a (by simp[pW]))⟩
   |false=>
    refine ce @t4 ⟨?_⟩
    refine(WX az.todx c).Zm ?_
    rintro ae a7 bd ⟨rfl,rfl,rfl⟩
    cases yH:qG c with
    |true=>
     refine ce @t4 ⟨?_⟩
     exact Rq _ _ _ ⟨115,aQ t3,aQ t4,aQ t5,bp,rfl,Zo,(λa=>absurd a (by simp[pW])),λ_ _=>rfl,(λ_ a=>absurd a (by simp[yH]))⟩
    |false=>
     refine ce @t4 ⟨?_⟩
     exact Rq _ _ _ ⟨111,aQ t3,aQ t4,aQ t5,bp,rfl,Zo,(λa=>absurd a (by simp[pW])),(λ_ a=>absurd a (by simp[yH])),λ_ _=>rfl⟩
  clear t3 t4 t5
  rintro ay6 a7 bd ⟨F,t3,t4,t5,gt,rfl,yP,bY,cx,c7⟩
  refine ce @gt ⟨?_⟩
  refine(rd F bY cx c7 _ yP).Zm ?_
  clear rd bY cx c7 gt
  rintro ae bw db ⟨⟨x,rfl,ah⟩,dj⟩
  have jd:=dj.le
  have el:ab X bw j=zs [.Z 0, .Z 0] 2:=by rw[dj.ad _ Zo];exact cd
  have MX:=fN.ad (dj.ad (j+1) Zo)
  have Fz:bh X h j bw db:=bC.trans ⟨Zo,λe H=>dj.ad e Zo⟩
  have arZ:cb x=[.Z x.kind, .str x.text, .Z x.at_, .int .u64 x.n, .bool x.ty.b, .bool x.ty.s, .Z x.ty.w]:=rfl
  rw[arZ]
  refine h5 ⟨?_⟩
  refine h5 ⟨?_⟩
  refine h5 ⟨?_⟩
  refine h5 ⟨?_⟩
  refine h5 ⟨?_⟩
  generalize jU:bo X _ db _=bS
  have bK:∀e,e<db->ab X bS e=ab X bw e:=λe H=>by rw[<-jU];exact zu
  have fK:ab X bS db=zs (cb x) 7:=by rw[<-jU,bi Zo];rfl
  have d8:=el
  rw[<-bK _ Zo]at d8
  have Jo:=MX.ad (bK (j+1) Zo)
  have dF:bh X h j bS (db+1):=⟨Zo,λe H=>by rw[bK e Zo];exact Fz.ad e H⟩
  clear jU el
  have ka:=Jo.dy
  cases nG:xV s aa with
  |none=>
   rw[nG]at Z
   simp only[Zf]at Z
   subst Z
   simp only[Z1]
   refine d9 @t4 @t3 @ka ⟨?_⟩
   exact⟨rfl,bh.set dF (Zl _) aM Zo⟩
  |some e=>
   have:=ah e nG
   subst this
   rw[nG]at Z
   simp only[]at Z
   obtain⟨Bx,Dy⟩:=TW nG
   simp only[Z3]
   simp only[Yi]
   refine d9 @t4 @t3 @ka ⟨?_⟩
   generalize gd:bo X bS db _=b4
   have cr:∀e,e≠db->ab X b4 e=ab X bS e:=λe H=>by rw[<-gd,aG Zo H]
   have eQ:ab X b4 db=some (.cells (d3 (V.ofList (cb x) 0 .nil) 2 [.Z (aa:Int)]) 7 .own):=by rw[<-gd,bi Zo];rfl
   have nF:=Jo.ad (cr (j+1) Zo)
   have dV:bh X h j b4 (db+1):=⟨Zo,λe H=>by rw[cr e Zo];exact dF.ad e H⟩
   have h4:=d8
   rw[<-cr _ Zo]at h4
   have dK:∀e∈cM,ab X b4 e=ab X a7 e:=λe H=>by have:=nA e H;rw[cr e Zo,bK e Zo,dj.ad e Zo]
   clear gd fK d8 Jo dF ka cr bK MX Fz
   have en:al X b4 (.ptr db 1)=some (.str x.text):=by rw[bR eQ];rfl
   have bH:aC .add (.Z (aa:Int)) (.Z (x.text.length:Int))=some (.Z ((aa+x.text.length:Nat):Int)):=by rw[eL Zo Zo];rfl
   refine ts @en ⟨?_⟩
   refine h5 ⟨?_⟩
   refine ts @bH ⟨?_⟩
   refine h5 ⟨?_⟩
   refine h5 ⟨?_⟩
   refine fS (im (F:=1) (b:=j+1) (Y:=1) (n:=2) nF.g Zo rfl Zd Zd rfl) ?_
   generalize ku:bo X b4 (j+1) _=cu
   have dP:∀e,e≠j+1->ab X cu e=ab X b4 e:=λe H=>by rw[<-ku,aG Zo H]
   have arl:m0 X cu (j+1) s (aa+x.text.length):=⟨by rw[<-ku,bi Zo];rfl,Dy,aI,Zo⟩
   have e7:bh X h j cu (db+1):=⟨Zo,λe H=>by rw[dP e Zo];exact dV.ad e H⟩
   rw[<-dP _ Zo]at eQ h4
   have fR:∀e∈cM,ab X cu e=ab X a7 e:=λe H=>by have:=nA e H;rw[dP e Zo];exact dK e H
   clear ku dP nF dV dK en
   have fY:al X cu (.ptr db 0)=some (.Z x.kind):=by rw[bR eQ];rfl
   have en:al X cu (.ptr db 1)=some (.str x.text):=by rw[bR eQ];rfl
   have c5:al X cu (.ptr db 2)=some (.Z (aa:Int)):=by rw[bR eQ];rfl
   have eV:al X cu (.ptr db 3)=some (.int .u64 x.n):=by rw[bR eQ];rfl
   have g2:al X cu (.ptr db 4)=some (.bool x.ty.b):=by rw[bR eQ];rfl
   have gM:al X cu (.ptr db 5)=some (.bool x.ty.s):=by rw[bR eQ];rfl
   have mQ:al X cu (.ptr db 6)=some (.Z x.ty.w):=by rw[bR eQ];rfl
   refine eu @fY @en @c5 @eV @g2 @gM (Za @mQ @t5) ⟨?_⟩
   obtain⟨hL,d4,gG,iv,R4,IR,xi⟩:=WK (bo X cu (db+1+11) (zs (cb (lL x aa)) 7)) (db+1+11+1) (db+1+11) (lL x aa) (λe H=>by have:=nA e H;rw[aG Zo Zo];exact fR e H) Zo (bi Zo)
   refine ky iv ?_
   have dl:∀e,e<j+2->e∉cM:=λe T W=>zo (nA e W)
   have iM:∀e,e<j+2->ab X d4 e=ab X cu e:=λe H=>by rw[xi e Zo (dl e H),aG Zo Zo]
   have arm:=arl.ad (iM (j+1) Zo)
   rw[<-iM _ Zo]at h4
   have gy:bh X h j d4 (db+1+11+1+1):=⟨Zo,λe H=>by rw[iM e Zo];exact e7.ad e H⟩
   have pT:∀e∈gG,j+2<=e/\e<db+1+11+1+1:=λe H=>by
    rcases IR e H with rfl|a
    ·omega
    ·have:=nA e a;omega
   refine ce @t4 ⟨?_⟩
   refine(W0 az arm ai Zo Zo).Zm ?_
   rintro ae dM jf ⟨qB,hb⟩
   have tO:=hb.le
   refine⟨m,Zo,hL,aY++[lL x aa],gG,_,aQ t3,aQ t4,bp,by rw[hb.ad _ Zo Zs];exact h4,qB, .inl (R4.ad λe H=>hb.ad e (pT e H).2 (by have:=pT e H;simp;omega)),λe H=>zo (pT e H),⟨Zo,λe H=>by rw[hb.ad e Zo (by simp;omega)];exact gy.ad e H⟩,Zo, ?_,Z⟩
   have:=Pm s s.length (aa+x.text.length)
   simp only[ZO,ZC,ZQ]
   omega
 ·have c3:=zp aa s.length
  rw[Zh bL]at Z
  cases Z
  refine fW @t4 @ee @dy @c3 @t5 ⟨?_⟩
  obtain⟨hL,bw,gG,iv,sB,uX,gg⟩:=WK (bo X aR (bc+10) (zs (cb ⟨7,[],aa,0,dU⟩) 7)) (bc+10+1) (bc+10) ⟨7,[],aa,0,dU⟩ (λe H=>aG Zo (zo (nA e H))) Zo (bi Zo)
  refine ky iv ?_
  have dl:∀e,e<j+2->e∉cM:=λe T W=>zo (nA e W)
  have el:ab X bw j=zs [.Z 0, .Z 0] 2:=by rw[gg _ Zo (dl _ Zo),aG Zo Zo];exact cd
  have dj:bh X h j bw (bc+10+1+1):=⟨Zo,λe H=>by rw[gg _ Zo (dl _ Zo),aG Zo Zo];exact bC.ad e H⟩
  clear iv gg
  refine ce @t3 ⟨?_⟩
  have Ru:∀r∈(aY++[(⟨7,[],aa,0,dU⟩:Tok)]).map cb,r.length=7:=λr a=>by obtain⟨x,_,rfl⟩:=ZJ.1 a;rfl
  generalize jU:bo X bw j _=bS
  have bK:∀e,e≠j->ab X bS e=ab X bw e:=λe H=>by rw[<-jU,aG Zo H]
  have aaP:∀e∈gG,j+2<=e/\e<bc+10+1+1:=λe H=>by
   rcases uX e H with rfl|a
   ·omega
   ·have:=nA e a;omega
  obtain⟨bN,cG⟩:=(sB.ad (U:=bS) (λe H=>bK e (zo (aaP e H)))).rH Zd Ru (by simp;omega) (P:=λe=>j<=e/\e<bc+10+1+1) (λe H=>zo (aaP e H))
  have jD:=cG.ai Zs
  exact⟨⟨hL,bN,rfl,d1.narrow cG,jD.1,jD.2⟩,⟨Zo,λe H=>by rw[bK e Zo];exact dj.ad e H⟩⟩
end
section
variable{X:co}{h U a6 aR:V an}{j ar aJ bc aK bN:Nat}{aY:List Tok}{i:Nat}
def SO(p:J):lK X h 23 p=al X h p:=Zk
def GD(p:J):lK X h 26 p=bM X h 2 p:=Zk
def XP:dc X h .eql 20 true .nilIface .nilIface=some (.bool true):=Zk
def XO(F K:Int):dc X h .eql 20 true (oS F K) .nilIface=some (.bool false):=Zk
def W2:∃fn c,(q X).P.funcs[67]? =some fn/\fn.body=some c:=LO (OV X)
def awe(az:dx X){K b:J}{bv:Bool->V an->Nat->Prop}(a:bv false h j):tp X (.func 67) ([]++[K,b]) none h j bv:=by
 refine⟨az.none _ _ rfl,W2,LP (OV X) ?_⟩
 show yt X 67 [K,b] none h j bv
 rw[V8]
 unfold OU
 show aT _ _
 refine ce @XP ⟨?_⟩
 exact a
def awf(az:dx X){K b:Nat}{F at_:Int}{dy dZ:V J}{bv:Bool->V an->Nat->Prop}(aM:(q X).ba<=K)(k6:(q X).ba<=b)(yG:K≠b)(C4:K<j)(xc:b<j)(ha:ab X h K=some (.cells dy 1 .own))(oU:ab X h b=some (.cells dZ 2 .own))
 (a:∀U aV,j<=aV->al X U (.ptr K 0)=some .cy->bM X U 2 (.ptr b 0)=some (.agg [.Z F, .Z at_])->(∀e,e<j->e≠K->e≠b->ab X U e=ab X h e)->bv true U aV):tp X (.func 67) ([]++[.ptr K 0, .ptr b 0]) (some (oS F at_)) h j bv:=by
 refine⟨az.none _ _ rfl,W2,LP (OV X) ?_⟩
 show yt X 67 [.ptr K 0, .ptr b 0] (some (oS F at_)) h j bv
 rw[V8]
 unfold OU
 show aT _ _
 have Pg:ET 26 (.agg [.Z 0, .Z 0]) true (oS F at_)=some (.tuple [.agg [.Z F, .Z at_], .bool true]):=r6 _ _ _
 have Ea:∀(M:dY) (n:Nat),(N8 M).g n=M.g n:=λ_ _=>rfl
 refine d9 @XO @Pg @Ea ⟨?_⟩
 generalize ea:bo X _ j _=a6
 have b5:ab X a6 j=zs [.Z F, .Z at_] 2:=by rw[<-ea,bi Zo];rfl
 have T:∀e,e<j->ab X a6 e=ab X h e:=λe H=>by rw[<-ea];exact zu
 rw[<-T K C4]at ha
 rw[<-T b xc]at oU
 clear ea
 refine c1 (bR b5) @Ea ⟨?_⟩
 refine gs (by simp[J.same,nK,pt]) ?_
 generalize d2:bo X a6 K _=aR
 have cd:ab X aR K=some (.cells (d3 dy 0 [.cy]) 1 .own):=by rw[<-d2,bi aM];rfl
 have W:∀e,e≠K->ab X aR e=ab X a6 e:=λe H=>by rw[<-d2,aG aM H]
 rw[<-W b Zo]at oU
 clear d2
 refine ts @Ea ⟨?_⟩
 refine fS (im (F:=2) (b:=b) (Y:=0) (n:=2) oU k6 rfl Zd Zd rfl) ?_
 show bv true _ _
 refine a _ _ Zo ?_ ?_ (λe H Sf gh=> ?_)
 ·rw[bR (by rw[aG k6 yG];exact cd),kA];rfl
 ·rw[oj,bR (bi k6),bR (bi k6),kA,kA];rfl
 ·rw[aG k6 gh,W e Sf,T e H]
def awr{ak:bJ}{M:dY}{p ao v w:J}(mm:M.bg=[])(W:M.g 2=some p)(au:M.g 3=some ao)(en:al X h p=some v)(c5:bM X h 2 ao=some w)(a:ak (.tuple [v,w]) h j):G7 X ak M h j:=by
 unfold G7
 rw[mm]
 show aj (M.g 2) (λp=>E (lK X h 23 p) λv=>aj (M.g 3) λp=>E (lK X h 26 p) λw=>ak (.tuple [v,w]) h j)
 rw[W,au]
 refine lA ?_
 rw[SO,en]
 refine lB ?_
 refine lA ?_
 rw[GD,c5]
 exact lB a
def aws{ak:bJ}{M:dY}{p ao v w K b:J}(az:dx X)(mm:M.bg=[⟨.fn (.func 67) [K,b],[]⟩])(W:M.g 2=some p)(au:M.g 3=some ao)(en:al X h p=some v)(c5:bM X h 2 ao=some w)(a:ak (.tuple [v,w]) h j):G7 X ak M h j:=by
 unfold G7
 rw[mm]
 show tp X (.func 67) ([]++[K,b]) none h j λ_ h j=>nj X [.cell 2 23, .cell 3 26] ak M [] h j
 refine awe az ?_
 show aj (M.g 2) (λp=>E (lK X h 23 p) λv=>aj (M.g 3) λp=>E (lK X h 26 p) λw=>ak (.tuple [v,w]) h j)
 rw[W,au]
 refine lA ?_
 rw[SO,en]
 refine lB ?_
 refine lA ?_
 rw[GD,c5]
 exact lB a
def adY{ak ay:bJ}{M:dY}{K b:Nat}{F at_:Int}{dy dZ:V J}(az:dx X)(mm:M.bg=[⟨.fn (.func 67) [.ptr K 0, .ptr b 0],[]⟩])(W:M.g 2=some (.ptr K 0))(au:M.g 3=some (.ptr b 0))
 (aM:(q X).ba<=K)(k6:(q X).ba<=b)(yG:K≠b)(C4:K<j)(xc:b<j)(ha:ab X h K=some (.cells dy 1 .own))(oU:ab X h b=some (.cells dZ 2 .own))
 (a:∀U aV,j<=aV->(∀e,e<j->e≠K->e≠b->ab X U e=ab X h e)->ak (.tuple [.cy, .agg [.Z F, .Z at_]]) U aV):Kk X ak ay M (oS F at_) h j:=by
 unfold Kk
 rw[mm]
 show tp X (.func 67) ([]++[.ptr K 0, .ptr b 0]) (some (oS F at_)) h j λb h j=>bV b (nj X [.cell 2 23, .cell 3 26] ak M [] h j) _
 refine awf az aM k6 yG C4 xc ha oU (λU aV gE en c5 aL=> ?_)
 show aj (M.g 2) (λp=>E (lK X U 23 p) λv=>aj (M.g 3) λp=>E (lK X U 26 p) λw=>ak (.tuple [v,w]) U aV)
 rw[W,au]
 refine lA ?_
 rw[SO,en]
 refine lB ?_
 refine lA ?_
 rw[GD,c5]
 exact lB (a U aV gE aL)
def Xs{fn:Fn}{first cap yf:List J}{M:dY}{ak:dY->Prop}(a:ak (Af M ⟨.fn fn cap,first++yf⟩)):H1 (.func fn first cap) yf M ak:=a
def B3(s:bq)(n:Nat):Option (Except (Int×Int) (List Go.aZ.Node)):=match qX s (s.length+1) [] (n2 s s.length 0)with
 |none=>none
 |some (.error K)=>some (.error (20,K))
 |some (.ok aY)=>match pm n [] aY with
  |none=>none
  |some (.error K)=>some (.error (21,K))
  |some (.ok (aq,_))=>match qM aq with
   |some (F,K)=>some (.error (F,K))
   |none=>some (.ok aq)
def Ul(X:co)(j:Nat)(r:Except (Int×Int) (List Go.aZ.Node))(ae:J)(U:V an)(ar:Nat):Prop:=match r with
 | .error (F,K)=>ae= .tuple [.cy, .agg [.Z F, .Z K]]
 | .ok aq=>∃v,ae= .tuple [v, .agg [.Z 0, .Z 0]]/\ns X U (cW j ar) aq v
def HS(s:bq):∀(n i:Nat),i<=s.length->n2 s n i<=s.length:=by
 intro n
 induction n with
 |zero=>intro i a;exact a
 |succ n am=>
  intro i a
  rw[n2]
  split
  ·exact a
  ·rename_i c aB
   have ah:=(Zc.1 aB).1
   split
   ·exact am _ Zo
   ·split
    ·have:=Et (λc=>decide (c≠10)) (s.drop i)
     rw[Yz]at this
     exact am _ Zo
    ·exact a
def ae7(s:bq):∀(n:Nat) (aY:List Tok) (i:Nat) (mW:List Tok),aY.length<=i->i<=s.length->qX s n aY i=some (.ok mW)->mW.length<=s.length+1:=by
 intro n
 induction n with
 |zero=>intro aY i mW _ _ a;cases a
 |succ n am=>
  intro aY i mW T W a
  rw[qX]at a
  split at a
  ·split at a
   ·cases a
   ·rename_i x ah
    obtain⟨bY,cx⟩:=TW ah
    have c7:=Pm s s.length (i+x.text.length)
    exact am _ _ _ (by simp;omega) (HS s _ _ cx) a
  ·cases a
   simp;omega
def avu(az:iS X)(e3:Hu X)(gn:wC X){s:bq}{n:Nat}(sw:n<=170000)(aI:s.length<=65536)(ai:∀c∈s,c<256)(aM:(q X).ba<=j){a0:J}(aD:dI a0=some (.Z (s.length:Int)))(C7:∀U aV,bh X h j U aV->AR X U a0=some (.str s))
 {r:Except (Int×Int) (List Go.aZ.Node)}(Z:B3 s n=some r):
 aW X 15 [a0] h j (λae U ar=>Ul X j r ae U ar/\bh X h j U ar) (λ_ _ _=>False):=by
 refine HV (agZ X) (az.none _ _ rfl) ?_
 rw[ag0]
 unfold UQ
 refine cS ⟨?_⟩
 refine fk (λa6=>ab X a6 j=zs [.cy] 1/\ab X a6 (j+1)=zs [.Z 0, .Z 0] 2/\bh X h j a6 (j+1+1)) ⟨by simp(disch:=omega) only[aG,bi]<;>rfl,by rw[bi Zo];rfl,dR⟩ ?_
 rintro a6 ⟨b5,cd,bT⟩
 unfold B3 at Z
 obtain⟨Ef,F6⟩:∃Ef,qX s (s.length+1) [] (n2 s s.length 0)=some Ef:=by
  cases a:qX s (s.length+1) [] (n2 s s.length 0)with
  |none=>rw[a]at Z;cases Z
  |some Ef=>exact⟨Ef,rfl⟩
 rw[F6]at Z
 refine(ako az e3 aI ai Zo aD (λU aV a=>C7 U aV (bT.trans a)) F6).Zm ?_
 rintro ae aR bc ⟨nG,bC⟩
 have f5:=bC.le
 have c0:ab X aR j=zs [.cy] 1:=by rw[bC.ad _ Zo];exact b5
 have el:ab X aR (j+1)=zs [.Z 0, .Z 0] 2:=by rw[bC.ad _ Zo];exact cd
 have jb:=bT.trans bC
 clear b5 cd
 cases Ef with
 |error K=>
  simp only[Zf]at Z
  subst Z
  simp only[Wr]at nG
  subst nG
  have PD:decide ((20:Int)≠0)=true:=rfl
  refine ce @PD ⟨?_⟩
  generalize fl:bo X aR (j+1) _=a7
  have fK:ab X a7 (j+1)=zs [.Z 20, .Z K] 2:=by rw[<-fl,bi Zo];rfl
  have au:∀e,e≠j+1->ab X a7 e=ab X aR e:=λe H=>by rw[<-fl,aG Zo H]
  rw[<-au _ Zo]at c0
  have cm:bh X h j a7 bc:=⟨Zo,λe H=>by rw[au e Zo];exact jb.ad e H⟩
  clear fl au el
  refine fS (im (F:=1) (b:=j) (Y:=0) (n:=1) c0 aM rfl Zd Zd rfl) ?_
  generalize eB:bo X a7 j _=bw
  have d8:ab X bw j=some (.cells (d3 (V.ofList [.cy] 0 .nil) 0 [.cy]) 1 .own):=by rw[<-eB,bi aM];rfl
  have aP:∀e,e≠j->ab X bw e=ab X a7 e:=λe H=>by rw[<-eB,aG aM H]
  rw[<-aP _ Zo]at fK
  have dj:bh X h j bw bc:=⟨Zo,λe H=>by rw[aP e Zo];exact cm.ad e H⟩
  clear eB aP c0 cm
  refine ts (bR fK) ⟨?_⟩
  refine gs (by simp[J.same,nK,pt]) ?_
  refine fS (im (F:=2) (b:=j+1) (Y:=0) (n:=2) fK Zo rfl Zd Zd rfl) ?_
  refine awr (v:= .cy) (w:= .agg [.Z 20, .Z K]) rfl (fQ) (fQ) ?_ ?_ ⟨rfl,bh.set dj Zo aM Zo⟩
  ·rw[bR (by rw[aG Zo Zo];exact d8),kA];rfl
  ·rw[oj,bR (bi Zo),bR (bi Zo),kA,kA];rfl
 |ok aY=>
  obtain⟨av,bN,rfl,cG,azH,azI⟩:=nG
  simp only[]at Z
  have PD:decide ((0:Int)≠0)=false:=rfl
  refine ce @PD ⟨?_⟩
  generalize fl:bo X aR (j+1) _=a7
  have fK:ab X a7 (j+1)=zs [.Z 0, .Z 0] 2:=by rw[<-fl,bi Zo];rfl
  have au:∀e,e≠j+1->ab X a7 e=ab X aR e:=λe H=>by rw[<-fl,aG Zo H]
  rw[<-au _ Zo]at c0
  have cm:bh X h j a7 bc:=⟨Zo,λe H=>by rw[au e Zo];exact jb.ad e H⟩
  have aro:=cG.ad (U:=a7) (λe H=>by subst H;exact au e Zo)
  clear fl au el
  refine Xs ?_
  obtain⟨bH,cP,fH⟩:=jt cG.len
  refine cS ⟨?_⟩
  have eo:eC [.aU, .Z 0] [(0,1,av)]=some (.agg [av, .Z 0]):=by
   simp[eC,pP,pQ,bH,lD]
  refine fS eo ?_
  refine cS ⟨?_⟩
  generalize hG:Af _ _=ut
  have kz:ut.bg=[⟨.fn (.func 67) [.ptr j 0, .ptr (j+1) 0],[]⟩]:=by rw[<-hG];rfl
  have eF:ut.g 2=some (.ptr j 0):=by rw[<-hG];rfl
  have t3:ut.g 3=some (.ptr (j+1) 0):=by rw[<-hG];rfl
  have Xu:∀l,om 2 l=false->(hP l ut).g 2=some (.ptr j 0):=λl a=>by simp[qj,eF,a]
  have Xv:∀l,om 3 l=false->(hP l ut).g 3=some (.ptr (j+1) 0):=λl a=>by simp[qj,t3,a]
  have Xo:∀l,(hP l ut).bg=[⟨.fn (.func 67) [.ptr j 0, .ptr (j+1) 0],[]⟩]:=λl=>kz
  clear hG
  refine fk (λbw=>ab X bw bc=zs [av, .Z ((0:Nat):Int)] 2/\bh X a7 bc bw (bc+1)) ⟨by rw[bi Zo];rfl,dR⟩ ?_
  rintro bw ⟨d8,yB⟩
  have fL:=ae7 s _ _ _ _ Zs (HS s _ _ Zo) F6
  have aqY:aZ X bw bc bN aY 0:=⟨⟨_,av,d8,rfl,rfl,aro.ad λe H=>by subst H;exact yB.ad e Zo⟩,Zo⟩
  have aq1:iF X bw (bc+1) bc bN aY 0:=⟨Zo,Zo,Zo,Zo,Zo,aqY⟩
  obtain⟨Ks,Bo⟩:∃Ks,pm n [] aY=some Ks:=by
   cases a:pm n [] aY with
   |none=>rw[a]at Z;cases Z
   |some Ks=>exact⟨Ks,rfl⟩
  rw[Bo]at Z
  have cL:ab X bw j=zs [.cy] 1:=by rw[yB.ad _ Zo];exact c0
  have cC:ab X bw (j+1)=zs [.Z 0, .Z 0] 2:=by rw[yB.ad _ Zo];exact fK
  refine(avR az.todx gn sw Zo aq1 (r:=Ks) Bo).mono ?_ ?_
  ·rintro v bS cj ⟨aq,i5,rfl,yR,_,dG⟩
   have il:=dG.le
   simp only[]at Z
   have d6:ab X bS j=zs [.cy] 1:=by rw[dG.ad _ Zo (by simp;omega)];exact cL
   have fU:ab X bS (j+1)=zs [.Z 0, .Z 0] 2:=by rw[dG.ad _ Zo (by simp;omega)];exact cC
   have abF:∀e,e<j->ab X bS e=ab X h e:=λe H=>by rw[dG.ad e Zo (by simp;omega),yB.ad e Zo];exact cm.ad e H
   obtain⟨yh,_,_,_,rfl,aaT,_⟩:=id yR
   have azJ:=aaT.1
   have azK:=aaT.2
   refine ts @eF ⟨?_⟩
   refine fS (im (F:=1) (b:=j) (Y:=0) (n:=1) d6 aM rfl Zd Zd rfl) ?_
   generalize gd:bo X bS j _=b4
   have eQ:ab X b4 j=some (.cells (d3 (V.ofList [.cy] 0 .nil) 0 [.ptr yh 0]) 1 .own):=by rw[<-gd,bi aM];rfl
   have cr:∀e,e≠j->ab X b4 e=ab X bS e:=λe H=>by rw[<-gd,aG aM H]
   clear gd
   have mQ:al X b4 (.ptr j 0)=some (.ptr yh 0):=by rw[bR eQ,kA];rfl
   refine ts @eF ⟨?_⟩
   refine ts @mQ ⟨?_⟩
   have aq2:=yR.ad (U:=b4) (bv:=cW (bc+1) cj) (λe H=>cr e (zo H.1)) (λ_ a=>a)
   have lC:ab X b4 (j+1)=zs [.Z 0, .Z 0] 2:=by rw[cr _ Zo];exact fU
   refine(atS (j:=cj) (h:=b4) az.todx Zo aq2 (λe H=>H.2)).mono ?_ ?_
   ·rintro KJ cu e1 ⟨pZ,rfl,e7⟩
    have nE:=e7.le
    rw[pZ]at Z
    simp only[Zf]at Z
    subst Z
    have h4:ab X cu j=some (.cells (d3 (V.ofList [.cy] 0 .nil) 0 [.ptr yh 0]) 1 .own):=by rw[e7.ad _ Zo];exact eQ
    have xL:ab X cu (j+1)=zs [.Z 0, .Z 0] 2:=by rw[e7.ad _ Zo];exact lC
    have mr:al X cu (.ptr j 0)=some (.ptr yh 0):=by rw[bR h4,kA];rfl
    refine ts @eF ⟨?_⟩
    refine ts @mr ⟨?_⟩
    refine h5 ⟨?_⟩
    refine ts @eF ⟨?_⟩
    refine fS (im (F:=1) (b:=j) (Y:=0) (n:=1) h4 aM rfl Zd Zd rfl) ?_
    generalize uV:bo X cu j _=d4
    have mG:ab X d4 j=some (.cells (d3 (d3 (V.ofList [.cy] 0 .nil) 0 [.ptr yh 0]) 0 [.ptr yh 0]) 1 .own):=by rw[<-uV,bi aM];rfl
    have fi:∀e,e≠j->ab X d4 e=ab X cu e:=λe H=>by rw[<-uV,aG aM H]
    rw[<-fi _ Zo]at xL
    clear uV
    refine ts @t3 ⟨?_⟩
    refine fS (im (F:=2) (b:=j+1) (Y:=0) (n:=2) xL Zo rfl Zd Zd rfl) ?_
    have qy:∀cO e,e≠j->e≠j+1->e<cj->ab X (bo X d4 (j+1) cO) e=ab X bS e:=λcO e T W au=>by
     rw[aG Zo W,fi e T,e7.ad e au,cr e T]
    refine aws (v:= .ptr yh 0) (w:= .agg [.Z 0, .Z 0]) az.todx kz eF t3 ?_ ?_ ⟨⟨.ptr yh 0,rfl,yR.ad (λe H=>qy _ e (zo H.1) (zo H.1) H.2) (λe H=>⟨zo H.1,zo H.2⟩)⟩,⟨Zo,λe H=>by rw[qy _ e Zo Zo Zo];exact abF e H⟩⟩
    ·rw[bR (by rw[aG Zo Zo];exact mG),kA];rfl
    ·rw[oj,bR (bi Zo),bR (bi Zo),kA,kA];rfl
   ·rintro ae cu e1 ⟨F,K,pZ,rfl,e7⟩
    have nE:=e7.le
    rw[pZ]at Z
    simp only[Zf]at Z
    subst Z
    refine adY (dy:=d3 (V.ofList [.cy] 0 .nil) 0 [.ptr yh 0]) (dZ:=V.ofList [.Z 0, .Z 0] 0 .nil) az.todx (Xo _) (Xu _ rfl) (Xv _ rfl) aM Zo Zo Zo Zo ?_ ?_ (λU aV gE aL=>⟨rfl,Zo,λe H=> ?_⟩)
    ·rw[e7.ad _ Zo];exact eQ
    ·rw[e7.ad _ Zo];exact lC
    ·rw[aL e Zo Zo Zo,e7.ad e Zo,cr e Zo];exact abF e H
  ·rintro ae bS cj ⟨K,rfl,rfl,dG⟩
   have il:=dG.le
   simp only[Zf]at Z
   subst Z
   refine adY (dy:=V.ofList [.cy] 0 .nil) (dZ:=V.ofList [.Z 0, .Z 0] 0 .nil) az.todx (Xo _) (Xu _ rfl) (Xv _ rfl) aM Zo Zo Zo Zo ?_ ?_ (λU aV gE aL=>⟨rfl,Zo,λe H=> ?_⟩)
   ·rw[dG.ad _ Zo (by simp;omega)];exact cL
   ·rw[dG.ad _ Zo (by simp;omega)];exact cC
   ·rw[aL e Zo Zo Zo,dG.ad e Zo (by simp;omega),yB.ad e Zo];exact cm.ad e H
end
end
end Go.Proofs.YtpfajohmofnkfaaGreatDoor

namespace Go.aZ
def hu:List Tok->Prop
 |[]=>False
 |x::l=>x.kind=7/\x.text=[]\/hu l
def hu.px{x:Tok}{l:List Tok}(a:hu (x::l))(ah:x.kind≠7):hu l:=a.resolve_left λF=>ah F.1
def eh{α:Type}(b:Nat)(bv:α->Prop)(x:gf α):Prop:=∃r,x=some r/\∀K ci,r= .ok (K,ci)->hu ci/\ci.length<b/\bv K
def qg(I:bG):Prop:=I.kind=4->I.args≠[]
def eh.mono{α:Type}{b dN:Nat}{bv q5:α->Prop}{x:gf α}(a:eh b bv x)(ai:b<=dN)(b6:∀K,bv K->q5 K):eh dN q5 x:=by
 obtain⟨r,T,W⟩:=a
 exact⟨r,T,λK ci I=>by obtain⟨bY,cx,c7⟩:=W K ci I;exact⟨bY,Zo,b6 K c7⟩⟩
def eh.ok{α:Type}{b:Nat}{bv:α->Prop}{K:α}{l:List Tok}(T:hu l)(W:l.length<b)(au:bv K):eh b bv (aZ.ok K l):=⟨_,rfl,λf3 ci I=>by cases I;exact⟨T,W,au⟩⟩
def eh.bad{α:Type}{b:Nat}{bv:α->Prop}(K:Int):eh b bv (aZ.bad K:gf α):=⟨_,rfl,λf3 ci I=>by cases I⟩
def eh.andThen{α eP:Type}{b dN:Nat}{bv:α->Prop}{q5:eP->Prop}{x:gf α}{f:α->List Tok->gf eP}(a:eh b bv x)(F:∀K ci,hu ci->ci.length<b->bv K->eh dN q5 (f K ci)):eh dN q5 (aZ.andThen x f):=by
 obtain⟨r,rfl,W⟩:=a
 cases r with
 |error K=>exact⟨_,rfl,λf3 ci I=>by cases I⟩
 |ok p=>
  obtain⟨K,ci⟩:=p
  obtain⟨bY,cx,c7⟩:=W K ci rfl
  exact F K ci bY cx c7
def Tx{x:Tok}{s:bq}(a:g5 x s=true):x.kind≠7:=by
 intro I;simp[g5,I]at a
def nR{s:bq}{l:List Tok}(a:hu l):eh l.length (λ_=>True) (eO s l):=by
 cases l with
 |nil=>exact a.elim
 |cons x l=>
  simp only[eO]
  split
  ·rename_i aI;exact eh.ok (a.px (Tx aI)) Zs trivial
  ·exact eh.bad _
def vw{F:Int}(aL:F≠7){l:List Tok}(a:hu l):eh l.length (λx:Tok=>True) (iO F l):=by
 cases l with
 |nil=>exact a.elim
 |cons x l=>
  simp only[iO]
  split
  ·rename_i aI;exact eh.ok (a.px Zo) Zs trivial
  ·exact eh.bad _
def qd{eP:Type}{s:bq}{l:List Tok}{f:Option Tok->List Tok->gf eP}{b:Nat}{bv:eP->Prop}(a:hu l)(T:∀x ci,hu ci->ci.length+1=l.length->eh b bv (f (some x) ci))(W:eh b bv (f none l)):eh b bv (io s l f):=by
 cases l with
 |nil=>exact a.elim
 |cons x l=>
  unfold io l6
  by_cases aI:g5 x s=true
  ·simp only[aI,ZD];exact T x l (a.px (Tx aI)) Zs
  ·simp only[aI,ZA];exact W
def WY{l:List Tok}(a:hu l):∀os:List (bq×Int),∃I ci,oP os l=some (I,ci)/\(I=none/\ci=l\/∃x,I=some x/\hu ci/\ci.length+1=l.length):=by
 cases l with
 |nil=>exact a.elim
 |cons x l=>
  intro os
  induction os with
  |nil=>exact⟨_,_,rfl, .inl ⟨rfl,rfl⟩⟩
  |cons Y os am=>
   obtain⟨s,F⟩:=Y
   unfold oP l6
   by_cases aI:g5 x s=true
   ·simp only[aI,ZD];exact⟨_,_,rfl, .inr ⟨_,rfl,a.px (Tx aI),Zs⟩⟩
   ·simp only[aI,ZA]
    exact am
structure afR(n:Nat):Prop where
 level:∀F l,F<=5->hu l->13*l.length+9-F<=n->eh l.length qg (level n F l)
 pi:∀F I l,F<=4->hu l->qg I->13*l.length+1<=n->eh (l.length+1) qg (pi n F I l)
 shift:∀l,hu l->13*l.length+3<=n->eh l.length qg (shift n l)
 pu:∀I l,hu l->qg I->13*l.length+1<=n->eh (l.length+1) qg (pu n I l)
 pv:∀F x I l,F≠4->hu l->13*l.length+1<=n->eh l.length qg (pv n F x I l)
 ud:∀l,hu l->13*l.length+2<=n->eh l.length qg (xK n l)
 nq:∀I l,hu l->qg I->13*l.length+1<=n->eh (l.length+1) qg (nq n I l)
 part:∀l,hu l->13*l.length+1<=n->eh l.length qg (part n l)
 list:∀l,hu l->13*l.length+12<=n->eh l.length (λ_=>True) (list n l)
 pj:∀cv l,hu l->13*l.length+1<=n->eh l.length (λ_=>True) (pj n cv l)
 lS:∀l,hu l->13*l.length+10<=n->eh l.length qg (lS n l)
 arrow:∀l,hu l->13*l.length+11<=n->eh l.length qg (arrow n l)
def ul{I:bG}(a:I.kind≠4):qg I:=λF=>absurd F a
def T7{I:bG}(a:I.args≠[]):qg I:=λ_=>a
def hu.pos{l:List Tok}(a:hu l):0<l.length:=by cases l with
 |nil=>exact a.elim
 |cons x l=>simp
def akm:∀n,afR n:=by
 intro n
 induction n with
 |zero=>constructor<;>(intros;rename_i a _ _;omega)
 |succ n am=>
  constructor
  case level=>
   intro F l aL aD aM
   have:=aD.pos
   rw[level]
   split
   ·exact am.shift l aD Zo
   ·refine(am.level (F+1) l Zo aD Zo).andThen λI ci T W au=> ?_
    exact(am.pi F I ci Zo T au Zo).mono Zo λ_ a=>a
  case pi=>
   intro F I l aL aD bA aM
   have:=aD.pos
   rw[pi]
   obtain⟨Y,ci,T,W⟩:=WY aD (ax F)
   rw[T]
   rcases W with ⟨rfl,rfl⟩|⟨x,rfl,au,aP⟩
   ·exact eh.ok aD Zo bA
   ·simp only[]
    refine(am.level (F+1) ci Zo au Zo).andThen λr c5 bY cx c7=> ?_
    split
    ·exact eh.ok bY Zo (T7 (by simp[two,bG.args]))
    ·exact(am.pi F _ c5 aL bY (T7 (by simp[two,bG.args])) Zo).mono Zo λ_ a=>a
  case shift=>
   intro l aD aM
   have:=aD.pos
   rw[shift]
   refine(am.ud l aD Zo).andThen λI ci T W au=> ?_
   exact(am.pu I ci T au Zo).mono Zo λ_ a=>a
  case pu=>
   intro I l aD bA aM
   have:=aD.pos
   rw[pu]
   refine qd aD (λx ci T W=>(am.pv 19 x I ci Zd T Zo).mono Zo λ_ a=>a) ?_
   refine qd aD (λx ci T W=>(am.pv 20 x I ci Zd T Zo).mono Zo λ_ a=>a) ?_
   exact eh.ok aD Zo bA
  case pv=>
   intro F x I l aL aD aM
   have:=aD.pos
   rw[pv]
   refine(vw Zd aD).andThen λm ci T W au=> ?_
   split
   ·exact eh.bad _
   ·exact(am.pu _ ci T (ul (by simpa[bG.kind]using aL)) Zo).mono Zo λ_ a=>a
  case ud=>
   intro l aD aM
   have:=aD.pos
   rw[xK]
   obtain⟨Y,ci,T,W⟩:=WY aD Ae
   rw[T]
   rcases W with ⟨rfl,rfl⟩|⟨x,rfl,au,aP⟩
   ·simp only[]
    refine(am.part ci aD Zo).andThen λI c5 bY cx c7=> ?_
    exact(am.nq I c5 bY c7 Zo).mono Zo λ_ a=>a
   ·simp only[]
    refine(am.ud ci au Zo).andThen λI c5 bY cx c7=> ?_
    exact eh.ok bY Zo (T7 (by simp[bG.args]))
  case nq=>
   intro I l aD bA aM
   have:=aD.pos
   rw[nq]
   refine qd aD (λx ci T W=> ?_) (eh.ok aD Zo bA)
   have:=T.pos
   refine qd T (λe c5 bY cx=> ?_) ?_
   ·refine(vw Zd bY).andThen λm eV fc f1 je=> ?_
    exact(am.nq _ eV fc (ul (by simp[bG.kind])) Zo).mono Zo λ_ a=>a
   ·refine(vw Zd T).andThen λm eV fc f1 je=> ?_
    exact(am.nq _ eV fc (ul (by simp[bG.kind])) Zo).mono Zo λ_ a=>a
  case list=>
   intro l aD aM
   have:=aD.pos
   rw[list]
   refine qd aD (λx ci T W=>eh.ok T Zo trivial) ?_
   refine(am.arrow l aD Zo).andThen λI c5 bY cx c7=> ?_
   exact(am.pj _ c5 bY Zo).mono Zo λ_ a=>a
  case pj=>
   intro cv l aD aM
   have:=aD.pos
   rw[pj]
   refine qd aD (λx ci T W=> ?_) ?_
   ·refine(am.arrow ci T Zo).andThen λI c5 bY cx c7=> ?_
    exact(am.pj _ c5 bY Zo).mono Zo λ_ a=>a
   ·exact(nR aD).andThen λ_ ci T W _=>eh.ok T Zo trivial
  case lS=>
   intro l aD aM
   have:=aD.pos
   rw[lS]
   refine(am.level 0 l Zo aD Zo).andThen λI c5 bY cx c7=> ?_
   refine qd bY (λx ci T W=> ?_) (eh.ok bY Zo c7)
   have Bh:t7 I≠none:=by
    unfold t7
    split
    ·simp
    ·split
     ·rename_i aP
      have:=c7 aP
      cases aE:I.args with
      |nil=>exact absurd aE this
      |cons K l=>simp
     ·simp
   simp only[]
   split
   ·rename_i a;exact absurd a Bh
   ·refine(am.lS ci T Zo).andThen λr eV fc f1 je=> ?_
    exact eh.ok fc Zo (ul (by simp[bG.kind]))
   ·exact eh.bad _
  case arrow=>
   intro l aD aM
   have:=aD.pos
   rw[arrow]
   refine(am.lS l aD Zo).andThen λI c5 bY cx c7=> ?_
   refine qd bY (λx ci T W=> ?_) (eh.ok bY Zo c7)
   refine(am.arrow ci T Zo).andThen λr eV fc f1 je=> ?_
   exact eh.ok fc Zo (ul (by simp[bG.kind]))
  case part=>
   intro l aD aM
   cases l with
   |nil=>exact aD.elim
   |cons x l=>
   simp only[ZC]at aM
   rw[part]
   have fL:(x::l).length=l.length+1:=rfl
   rw[fL]
   by_cases ka:x.kind=5
   ·rw[Zr ka]
    exact eh.ok (aD.px Zo) Zo (ul (by simp[bG.kind]))
   rw[Zh ka]
   split
   ·rename_i a
    have:x.kind=2:=by simp at a;exact a.1
    exact eh.ok (aD.px Zo) Zo (ul (by simp[bG.kind]))
   by_cases dy:x.kind=1
   ·rw[Zr dy]
    have hy:=aD.px Zo
    refine qd hy (λe c5 T W=> ?_) (eh.ok hy Zo (ul (by simp[bG.kind])))
    refine(am.list c5 T Zo).andThen λcv eV fc f1 je=> ?_
    exact eh.ok fc Zo (ul (by simp[bG.kind]))
   rw[Zh dy]
   by_cases hk:x.kind=3
   ·rw[Zr hk]
    have hy:=aD.px Zo
    refine(nR hy).andThen λ_ c5 T W _=> ?_
    refine(am.arrow c5 T Zo).andThen λI eV fc f1 je=> ?_
    refine(nR fc).andThen λ_ g2 fJ hp _=> ?_
    exact eh.ok fJ Zo (ul (by simp[bG.kind]))
   rw[Zh hk]
   split
   ·rename_i a
    have:x.kind=6:=by simp at a;exact a.1
    have hy:=aD.px Zo
    refine(am.arrow l hy Zo).andThen λI eV fc f1 je=> ?_
    refine(nR fc).andThen λ_ g2 fJ hp _=> ?_
    exact eh.ok fJ Zo je
   split
   ·rename_i a
    have:x.kind=2:=by simp at a;exact a.1
    have hy:=aD.px Zo
    refine(am.arrow l hy Zo).andThen λI eV fc f1 je=> ?_
    refine(nR fc).andThen λ_ g2 fJ hp _=> ?_
    refine(am.arrow g2 fJ Zo).andThen λcP gM cL cC d6=> ?_
    refine(nR cL).andThen λ_ mQ eW fv _=> ?_
    refine(am.arrow mQ eW Zo).andThen λfH mr j5 kQ Ku=> ?_
    exact eh.ok j5 Zo (ul (by simp[bG.kind]))
   split
   ·rename_i a
    have:x.kind=2:=by simp at a;exact a.1
    have hy:=aD.px Zo
    refine(vw Zd hy).andThen λc c5 T W _=> ?_
    refine(am.part c5 T Zo).andThen λI eV fc f1 je=> ?_
    refine(am.part eV fc Zo).andThen λcP g2 fJ hp uc=> ?_
    exact eh.ok fJ Zo (ul (by simp[bG.kind]))
   ·exact eh.bad _
def ady:∀(n:Nat) (cv l:List Tok),hu l->l.length<=n->eh l.length (λ_=>True) (rC n cv l):=by
 intro n
 induction n with
 |zero=>intro cv l a aM;have:=a.pos;omega
 |succ n am=>
  intro cv l a aM
  rw[rC]
  refine(vw Zd a).andThen λx c5 T W _=> ?_
  refine qd T (λe eV bY cx=>(am _ eV bY Zo).mono Zo λ_ a=>a) (eh.ok T Zo trivial)
def alI{w:Option Tok}{l:List Tok}(a:hu l):eh (l.length+1) (λ_=>True) (AT w l):=by
 cases w with
 |none=>exact eh.ok a Zo trivial
 |some w=>
  simp only[AT]
  refine qd a (λe c5 bY cx=> ?_) ?_
  ·exact(vw Zd bY).andThen λx eV fc f1 _=>eh.ok fc Zo trivial
  ·exact(vw Zd a).andThen λx eV fc f1 _=>eh.ok fc Zo trivial
def PG:∀(n:Nat) (loc:Bool) (ds:List fq) (l:List Tok),hu l->l.length+1<=n->eh l.length (λ_=>True) (i6 n loc ds l):=by
 intro n
 induction n with
 |zero=>intro loc ds l a aM;omega
 |succ n am=>
  intro loc ds l a aM
  rw[i6]
  refine(ady n [] l a Zo).andThen λcp c5 T W _=> ?_
  unfold CG
  refine(nR T).andThen λ_ eV bY cx _=> ?_
  refine(vw Zd bY).andThen λt g2 fc f1 _=> ?_
  have fin:∀w gM,hu gM->gM.length<=g2.length->eh l.length (λ_=>True) (andThen (AT w gM) λr l=>ym loc (i6 n loc) (ds++cp.map (pM t.ty r.1 r.2.1 r.2.2)) l):=by
   intro w gM fJ hp
   refine(alI fJ).andThen λr mQ cL cC _=> ?_
   unfold ym
   cases mQ with
   |nil=>exact cL.elim
   |cons e mr=>
    simp only[Ap,ZC]at cC ⊢
    split
    ·rename_i aI
     have d6:hu mr:=cL.resolve_left λF=>by rw[F.2]at aI;cases aI
     split
     ·cases mr with
      |nil=>exact d6.elim
      |cons bu oh=>
       simp only[Ap]
       split
       ·exact eh.ok cL (by simp at cC ⊢;omega) trivial
       ·exact(am _ _ (bu::oh) d6 (by simp at cC ⊢;omega)).mono (by simp at cC ⊢;omega) λ_ a=>a
     ·exact(am _ _ mr d6 Zo).mono Zo λ_ a=>a
    ·exact eh.ok cL (by simp;omega) trivial
  refine qd fc (λe gM fJ hp=>fin _ gM fJ Zo) (fin _ g2 fc Zo)
def amz{n:Nat}{l:List Tok}(a:hu l)(aM:13*l.length+12<=n):eh l.length (λ_=>True) (uI n l):=by
 unfold uI
 have fin:∀(x:gf (List Tok)),eh (l.length+1) (λ_=>True) x->eh l.length (λ_=>True) (andThen x λcp l=>andThen (eO [61] l) λI l=>andThen (arrow n l) λr l=>andThen (eO [59] l) λ_ l=>ok (⟨cp.map Tok.text,cp.map Tok.at_,I.at_,r⟩:gv) l):=by
  intro x ah
  refine ah.andThen λcp c5 T W _=> ?_
  refine(nR T).andThen λ_ eV bY cx _=> ?_
  refine((akm n).arrow eV bY Zo).andThen λI g2 fc f1 _=> ?_
  exact(nR fc).andThen λ_ gM fJ hp _=>eh.ok fJ Zo trivial
 refine qd a (λe c5 T W=>fin _ ?_) (fin _ ?_)
 ·refine(vw Zd T).andThen λx eV bY cx _=> ?_
  refine(nR bY).andThen λ_ g2 fc f1 _=> ?_
  refine(ady n _ g2 fc Zo).andThen λcp gM fJ hp _=> ?_
  exact(nR fJ).andThen λ_ mQ cL cC _=>eh.ok cL Zo trivial
 ·exact(vw Zd a).andThen λx eV bY cx _=>eh.ok bY Zo trivial
def amC:∀(n:Nat) (c2:List gv) (l:List Tok),hu l->13*l.length+13<=n->eh l.length (λ_=>True) (lR n c2 l):=by
 intro n
 induction n with
 |zero=>intro c2 l a aM;omega
 |succ n am=>
  intro c2 l a aM
  rw[lR]
  refine qd a (λe c5 T W=>eh.ok T Zo trivial) ?_
  refine(amz a Zo).andThen λao c5 T W _=> ?_
  exact(am _ c5 T Zo).mono Zo λ_ a=>a
def auM{n:Nat}{l:List Tok}(a:hu l)(aM:13*l.length+13<=n):eh l.length (λ_=>True) (node n l):=by
 unfold node
 refine(nR a).andThen λ_ c5 T W _=> ?_
 refine(vw Zd T).andThen λx eV bY cx _=> ?_
 refine(nR bY).andThen λ_ g2 fc f1 _=> ?_
 have amU:∀ef out gM,hu gM->gM.length<g2.length->eh l.length (λ_=>True) (io [118,97,114] gM λe l=>andThen (match e with
  |some _=>andThen (i6 n true [] l) λds l=>andThen (eO [59] l) λ_ l=>ok ds l
  |none=>ok [] l) λloc l=>
  andThen (eO [108,101,116] l) λ_ l=>andThen (lR n [] l) λc2 l=>ok (⟨x.text,x.at_,ef,out,loc,c2⟩:Node) l):=by
  intro ef out gM fJ hp
  have X1:∀(bu:gf (List fq)),eh (gM.length+1) (λ_=>True) bu->eh l.length (λ_=>True) (andThen bu λloc l=>
   andThen (eO [108,101,116] l) λ_ l=>andThen (lR n [] l) λc2 l=>ok (⟨x.text,x.at_,ef,out,loc,c2⟩:Node) l):=by
   intro bu cw
   refine cw.andThen λloc mQ cL cC _=> ?_
   refine(nR cL).andThen λ_ mr eW fv _=> ?_
   refine(amC n _ mr eW Zo).andThen λc2 oh j5 kQ _=> ?_
   exact eh.ok j5 Zo trivial
  refine qd fJ (λe mQ cL cC=>X1 _ ?_) (X1 _ (eh.ok fJ Zo trivial))
  refine(PG n _ _ mQ cL Zo).andThen λds mr eW fv _=> ?_
  exact(nR eW).andThen λ_ oh j5 kQ _=>eh.ok j5 Zo trivial
 have X0:∀(bu:gf (List fq)),eh (g2.length+1) (λ_=>True) bu->eh l.length (λ_=>True) (andThen bu λef l=>
  andThen (eO [114,101,116,117,114,110,115] l) λ_ l=>andThen (eO [40] l) λ_ l=>andThen (i6 n false [] l) λout l=>andThen (eO [41] l) λ_ l=>
  io [118,97,114] l λe l=>andThen (match e with
  |some _=>andThen (i6 n true [] l) λds l=>andThen (eO [59] l) λ_ l=>ok ds l
  |none=>ok [] l) λloc l=>
  andThen (eO [108,101,116] l) λ_ l=>andThen (lR n [] l) λc2 l=>ok (⟨x.text,x.at_,ef,out,loc,c2⟩:Node) l):=by
  intro bu cw
  refine cw.andThen λef gM fJ hp _=> ?_
  refine(nR fJ).andThen λ_ mQ cL cC _=> ?_
  refine(nR cL).andThen λ_ mr eW fv _=> ?_
  refine(PG n _ _ mr eW Zo).andThen λout oh j5 kQ _=> ?_
  refine(nR j5).andThen λ_ sI t1 eF _=> ?_
  exact amU ef out sI t1 Zo
 refine qd fc (λe gM fJ hp=>X0 _ (eh.ok fJ Zo trivial)) (X0 _ ?_)
 refine(PG n _ _ g2 fc Zo).andThen λds mr eW fv _=> ?_
 exact(nR eW).andThen λ_ oh j5 kQ _=>eh.ok j5 Zo trivial
def auO:∀(n:Nat) (aq:List Node) (l:List Tok),hu l->13*l.length+14<=n->eh l.length (λ_=>True) (pm n aq l):=by
 intro n
 induction n with
 |zero=>intro aq l a aM;omega
 |succ n am=>
  intro aq l a aM
  rw[pm]
  refine(auM a Zo).andThen λg c5 T W _=> ?_
  cases c5 with
  |nil=>exact T.elim
  |cons x eV=>
   simp only[]
   split
   ·exact eh.ok T Zo trivial
   ·exact(am _ _ T Zo).mono Zo λ_ a=>a
end Go.aZ

namespace Go.Proofs.YtpfajohmofnkfaaGreatDoor
open Go.bk Go.aZ
def hu.snoc{x:Tok}(T:x.kind=7)(W:x.text=[]):∀l:List Tok,hu (l++[x]):=by
 intro l
 induction l with
 |nil=>exact .inl ⟨T,W⟩
 |cons e l am=>exact .inr am
def ax9(s:bq):∀(n:Nat) (aY:List Tok) (i:Nat),i<=s.length->s.length<i+n->∃r,qX s n aY i=some r/\∀mW,r= .ok mW->hu mW:=by
 intro n
 induction n with
 |zero=>intro aY i T W;omega
 |succ n am=>
  intro aY i T W
  rw[qX]
  split
  ·cases ah:xV s i with
   |none=>exact⟨_,rfl,λmW a=>by cases a⟩
   |some x=>
    obtain⟨bY,cx⟩:=TW ah
    have c7:=Pm s s.length (i+x.text.length)
    exact am _ _ (HS s _ _ cx) Zo
  ·exact⟨_,rfl,λmW a=>by cases a;exact hu.snoc rfl rfl _⟩
def avs{s:bq}(aI:s.length<=5000):∃r,B3 s 170000=some r:=by
 unfold B3
 obtain⟨r,T,W⟩:=ax9 s (s.length+1) [] (n2 s s.length 0) (HS s _ _ Zo) Zo
 rw[T]
 cases r with
 |error K=>exact⟨_,rfl⟩
 |ok aY=>
  simp only[]
  have fL:=ae7 s _ _ _ _ Zs (HS s _ _ Zo) T
  obtain⟨r,au,_⟩:=auO 170000 [] aY (W aY rfl) Zo
  rw[au]
  cases r with
  |error K=>exact⟨_,rfl⟩
  |ok p=>
   obtain⟨aq,l⟩:=p
   simp only[]
   cases qM aq with
   |none=>exact⟨_,rfl⟩
   |some ao=>exact⟨_,rfl⟩
noncomputable def B2(s:bq):Except (Int×Int) (List Go.aZ.Node):=match B3 s 170000 with
 |some r=>r
 |none=> .error (0,0)
def ad1{s:bq}(aI:s.length<=5000):B3 s 170000=some (B2 s):=by
 obtain⟨r,a⟩:=avs aI
 unfold B2
 rw[a]
variable{X:co}{h:V an}{j:Nat}
def avr(az:iS X)(e3:Hu X)(gn:wC X){s:bq}(aI:s.length<=5000)(ai:∀c∈s,c<256)(aM:(q X).ba<=j){a0:J}(aD:dI a0=some (.Z (s.length:Int)))(C7:∀U aV,bh X h j U aV->AR X U a0=some (.str s)):
 aW X 15 [a0] h j (λae U ar=>Ul X j (B2 s) ae U ar/\bh X h j U ar) (λ_ _ _=>False):=
 avu az e3 gn (Zl _) Zo ai aM aD C7 (ad1 aI)
end Go.Proofs.YtpfajohmofnkfaaGreatDoor

namespace Go.Proofs.YtpfajohmofnkfaaGreatDoor
open Go.bk Go.aZ
noncomputable section
def Fl(nm:bq):Nat->List Go.aZ.Node->Option Nat
 |_,[]=>none
 |F,g::l=>if g.name=nm then some F else Fl nm (F+1) l
def m7(aq:List Go.aZ.Node)(nm:bq):Option Nat:=Fl nm 0 aq
section
variable{X:co}{h U a6 aR:V an}{j ar aJ bc:Nat}{P:Nat->Prop}{aq:List Go.aZ.Node}
def asD(az:dx X){g:Go.aZ.Node}{row:List J}(aM:(q X).ba<=j)(b0:oH X h P g row){c:Nat}{nm:bq}(aB:c<j)(xe:al X h (.ptr c 0)=some (.str nm)):
 aW X 134 [.agg row, .ptr c 0] h j (λae U ar=>ae= .bool (decide (g.name=nm))/\bh X h j U ar) (λ_ _ _=>False):=by
 refine zv az (agJ X) ?_
 rw[agK]
 unfold UG
 obtain⟨cY,df,a8,eR,cT,dL,et,ig,aeD,rfl,_⟩:=b0
 refine ce @xe ⟨?_⟩
 exact⟨rfl,dR⟩
def asv(az:dx X){a8:J}{cD:Nat}{bF:List (List J)}(aM:(q X).ba<=j)(cG:d1 X h P cD a8 6 bF)(u5:oI X h P aq bF)(bB:∀e,P e->e<j){c:Nat}{nm:bq}(aB:c<j)(xe:al X h (.ptr c 0)=some (.str nm)):
 aW X 133 [a8, .func (.func 134) [] [.ptr c 0]] h j (λae U ar=>ae= .Z (match m7 aq nm with|some F=>(F:Int)|none=> -1)/\bh X h j U ar) (λ_ _ _=>False):=by
 refine zv az (agH X) ?_
 rw[agI]
 unfold UF
 have xh:=u5.wide
 have ew:=cG.len
 have h7:=cG.many
 rw[xh.1]at ew h7
 refine ce @ew ⟨?_⟩
 refine fC (λm M U aV=>∃(aa:Nat),M.g 0=some a8/\M.g 1=some (.func (.func 134) [] [.ptr c 0])/\M.g 7=some (.Z (aq.length:Int))/\M.g 8=some (.Z (aa:Int))/\aa+m=aq.length/\bh X h j U aV/\m7 aq nm=Fl nm aa (aq.drop aa))
  aq.length ⟨0,bp,bp,bp,fQ,Zo,bh.refl _ _,rfl⟩ ?_
 rintro m M aR bc ⟨aa,t0,t1,fo,gA,bL,bC,b9⟩
 have f5:=bC.le
 cases m with
 |zero=>
  have d:=zp aa aq.length
  rw[ZH Zo]at b9
  refine d9 @gA @fo @d ⟨?_⟩
  exact⟨by rw[b9];rfl,bC⟩
 |succ m=>
  have d:=zq aa aq.length
  have bH:=zt aa
  obtain⟨g,b0⟩:=zr aq aa
  have aO:aq.drop aa=g::aq.drop (aa+1):=by
   obtain⟨ah,H⟩:=Zc.1 b0
   rw[Zw ah,H]
  obtain⟨row,ft,kh⟩:=u5.get aa g b0
  have aL:=λe (H:P e)=>bC.ad e (bB e H)
  have dQ:=cG.e9 aa (by rw[xh.1];omega)
  have hS:=(cG.ad aL).row Zd ft
  have IV:al X aR (.ptr c 0)=some (.str nm):=zz (bC.ad c aB) xe
  rw[aO,Fl]at b9
  refine eu @gA @fo @t1 @t0 @d @dQ @hS ⟨?_⟩
  refine(asD az Zo (kh.ad (bv:=P) aL (λ_ a=>a)) Zo IV).Zm ?_
  rintro ae a7 bd ⟨rfl,cm⟩
  by_cases h8:g.name=nm
  ·rw[Zr h8]at b9
   have cQ:decide (g.name=nm)=true:=by simp[h8]
   rw[cQ]
   refine cS ⟨?_⟩
   exact⟨by rw[b9],bC.trans cm⟩
  ·rw[Zh h8]at b9
   have cQ:decide (g.name=nm)=false:=by simp[h8]
   rw[cQ]
   refine c1 @gA @bH ⟨?_⟩
   exact⟨m,Zo,aa+1,aQ t0,aQ t1,aQ fo,bp,Zo,bC.trans cm,b9⟩
def PV(b:Nat):dc X h .eql 23 true (.ptr b 0) .cy=some (.bool false):=Zk
def ads{C:a2}{h:V an}(x:Int):r7 C h .max [3,3] [.Z x, .Z 0]=some (.Z (max x 0)):=by
 show oM true (.Z x) [.Z 0]=_
 simp only[oM,fG,tW,ZD]
 congr 2
 simp only[Zg]
 split<;>omega
def LL(az:dx X){v:J}(aM:(q X).ba<=j)(b0:ns X h P aq v)(bB:∀e,P e->e<j)(nm:bq):
 aW X 79 [v, .str nm] h j (λae U ar=>ae= .tuple [.Z (((m7 aq nm).getD 0:Nat):Int), .bool (m7 aq nm).isSome]/\bh X h j U ar) (λ_ _ _=>False):=by
 refine zv az (ajB X) ?_
 rw[ajC]
 unfold Wf
 obtain⟨b,a8,cD,bF,rfl,k1,a0,cG,u5⟩:=b0
 have gp:=bB b k1
 refine c1 @PV @a0 ⟨?_⟩
 refine fk (λa6=>ab X a6 j=zs [.str nm] 1/\bh X h j a6 (j+1)) ⟨bi aM,dR⟩ ?_
 rintro a6 ⟨b5,bT⟩
 have aL:=λe (H:P e)=>bT.ad e (bB e H)
 refine(asv (j:=j+1) (h:=a6) az Zo (cG.ad aL) (u5.ad (bv:=P) aL (λ_ a=>a)) (λe H=>zo (bB e H)) Zo (by rw[bR b5];rfl)).Zm ?_
 rintro ae aR bc ⟨rfl,bC⟩
 cases b9:m7 aq nm with
 |none=>
  refine ce @ads ⟨?_⟩
  exact⟨rfl,bT.trans bC⟩
 |some F=>
  have d:decide ((0:Int)<=(F:Int))=true:=by simp only[Zg];omega
  have bs:max (F:Int) 0=(F:Int):=Zo
  refine d9 @ads @d @bs ⟨?_⟩
  exact⟨rfl,bT.trans bC⟩
end
mutual
def Cj{iR:Type}(step:iR->bG->iR×Bool):iR->bG->iR
 |s, .mk F K nm no t n args=>if (step s (.mk F K nm no t n args)).2=true then xY step (step s (.mk F K nm no t n args)).1 args else(step s (.mk F K nm no t n args)).1
def xY{iR:Type}(step:iR->bG->iR×Bool):iR->List bG->iR
 |s,[]=>s
 |s,I::l=>xY step (Cj step s I) l
end
def ayF{iR:Type}(step:iR->bG->iR×Bool)(s:iR)(I:bG):Cj step s I=if (step s I).2=true then xY step (step s I).1 I.args else(step s I).1:=by
 cases I;rw[Cj];rfl
def aeM{I K:bG}(a:K∈I.args):SizeOf.sizeOf K<SizeOf.sizeOf I:=by
 cases I with
 |mk F at_ nm no t n args=>
  have cz:K∈args:=a
  have:=List.sizeOf_lt_of_mem cz
  simp
  omega
section
variable{X:co}{h U a6 aR:V an}{j ar aJ bc:Nat}
def afq(az:dx X){iR:Type}(step:iR->bG->iR×Bool)(P:Nat->Prop)(d7:iR->V an->Nat->Prop)(gw:V an)(eY:bG->J->Prop)(iV:∀I b a8 cD bj,eY I (.ptr b 0)->al X gw (.ptr b 8)=some a8->d1 X gw P cD a8 1 (bj.map λv=>[v])->dB X gw P I.args bj->∀(i:Nat) K w,I.args[i]? =some K->bj[i]? =some w->eY K w)(F:Nat)(CP wV:List J)
 (rv:∀(s:iR) (I:bG) (v:J) (h:V an) (j:Nat),d7 s h j->eY I v->cR X h P I v->(∀e,P e->ab X h e=ab X gw e)->aW X F ((CP++[v])++wV) h j (λae U ar=>ae= .bool (step s I).2/\d7 (step s I).1 U ar/\∀e,P e->ab X U e=ab X h e) (λ_ _ _=>False)):
 ∀(N:Nat) (I:bG),SizeOf.sizeOf I<N->∀(s:iR) (v:J) (h:V an) (j:Nat),d7 s h j->eY I v->cR X h P I v->(∀e,P e->ab X h e=ab X gw e)->
  aW X 18 [v, .func (.func F) CP wV] h j (λae U ar=>ae= .tuple []/\d7 (Cj step s I) U ar/\∀e,P e->ab X U e=ab X h e) (λ_ _ _=>False):=by
 intro N
 induction N with
 |zero=>intro I a;omega
 |succ N am=>
  intro I jT s v h j e8 Z bA IL
  refine zv az (ahL X) ?_
  rw[ahM]
  unfold Va
  obtain⟨b,a8,cD,bj,rfl,ai,_,_,_,_,_,_,_,_,ir,cG,has⟩:=id bA.open
  have ew:=cG.len
  have xt:=has.len
  rw[Zi,xt]at ew
  have h7:=cG.many
  rw[Zi,xt]at h7
  rw[ayF]
  refine ce @NR ⟨?_⟩
  refine(rv s I _ h j e8 Z bA IL).Zm ?_
  rintro ae a6 aJ ⟨rfl,aaB,k5⟩
  cases abk:(step s I).2 with
  |false=>
   refine cS ⟨?_⟩
   exact⟨rfl,aaB,k5⟩
  |true=>
   have HI:al X a6 (.ptr b 8)=some a8:=zz (k5 b ai) ir
   refine c1 @HI @ew ⟨?_⟩
   refine fC (λm M U aV=>∃(aa:Nat) (fg:iR),M.g 1=some (.func (.func F) CP wV)/\M.g 17=some a8/\M.g 18=some (.Z (I.args.length:Int))/\M.g 19=some (.Z (aa:Int))/\aa+m=I.args.length/\d7 fg U aV/\(∀e,P e->ab X U e=ab X h e)/\xY step (step s I).1 I.args=xY step fg (I.args.drop aa))
    I.args.length ⟨0,_,bp,bp,bp,fQ,Zo,aaB,k5,rfl⟩ ?_
   rintro m M aR bc ⟨aa,fg,t1,wa,Hi,xT,bL,rp,iX,bI⟩
   cases m with
   |zero=>
    have d:=zp aa I.args.length
    rw[ZH Zo,xY]at bI
    refine d9 @xT @Hi @d ⟨?_⟩
    exact⟨rfl,by simp only[ZD];rw[bI];exact rp,iX⟩
   |succ m=>
    have d:=zq aa I.args.length
    have bH:=zt aa
    obtain⟨K,aE⟩:=zr I.args aa
    have aO:I.args.drop aa=K::I.args.drop (aa+1):=by
     obtain⟨ah,H⟩:=Zc.1 aE
     rw[Zw ah,H]
    obtain⟨w,sE,QX⟩:=has.get aa K aE
    obtain⟨b5,cd,c0⟩:=(cG.ad iX).one sE
    rw[aO,xY]at bI
    refine eu @xT @Hi @wa @t1 @d @b5 @cd ⟨?_⟩
    have eX:=aeM (Zn aE)
    refine(am K Zo fg w aR bc rp (iV I b a8 cD bj Z (by rw[cg, <-IL b ai, <-cg];exact ir) (cG.ad λe H=>(IL e H).symm) (dB.ad (λe H=>(IL e H).symm) _ _ has) aa K w aE sE) (cR.ad iX _ _ QX) (λe H=>(iX e H).trans (IL e H))).Zm ?_
    rintro ae a7 bd ⟨rfl,tG,ob⟩
    refine c1 @xT @bH ⟨?_⟩
    exact⟨m,Zo,aa+1,_,aQ t1,aQ wa,aQ Hi,bp,Zo,tG,λe H=>by rw[ob e H,iX e H],bI⟩
def ayG(az:dx X){iR:Type}(step:iR->bG->iR×Bool)(P:Nat->Prop)(d7:iR->V an->Nat->Prop)(F:Nat)(CP wV:List J)
 (rv:∀(s:iR) (I:bG) (v:J) (h:V an) (j:Nat),d7 s h j->cR X h P I v->aW X F ((CP++[v])++wV) h j (λae U ar=>ae= .bool (step s I).2/\d7 (step s I).1 U ar/\∀e,P e->ab X U e=ab X h e) (λ_ _ _=>False))
 (N:Nat)(I:bG)(jT:SizeOf.sizeOf I<N)(s:iR)(v:J)(h:V an)(j:Nat)(e8:d7 s h j)(bA:cR X h P I v):
  aW X 18 [v, .func (.func F) CP wV] h j (λae U ar=>ae= .tuple []/\d7 (Cj step s I) U ar/\∀e,P e->ab X U e=ab X h e) (λ_ _ _=>False):=
 afq az step P d7 h (λ_ _=>True) (λ_ _ _ _ _ _ _ _ _ _ _ _ _ _=>trivial) F CP wV (λs I v h j e8 _ bA _=>rv s I v h j e8 bA) N I jT s v h j e8 trivial bA (λ_ _=>rfl)
end
def ga(X:co)(h:V an)(b1:Nat)(p:J)(F:Int)(cF dh:J)(f:Int×Int):Prop:=ab X h b1=zs [p, .Z F,cF,dh, .Z f.1, .Z f.2] 6
def mf(f:Int×Int)(c K:Int):Int×Int:=if f.1=0 then(c,K)else f
section
variable{X:co}{h U a6 aR:V an}{j ar aJ bc:Nat}
def wN(az:dx X){b1:Nat}{p cF dh:J}{F:Int}{f:Int×Int}(aM:(q X).ba<=b1)(aB:ga X h b1 p F cF dh f)(c K:Int):
 aW X 119 [.ptr b1 0, .Z c, .Z K] h j (λae U ar=>ae= .tuple []/\ga X U b1 p F cF dh (mf f c K)/\j<=ar/\∀e,e≠b1->ab X U e=ab X h e) (λ_ _ _=>False):=by
 refine zv az (agp X) ?_
 rw[agq]
 unfold Uw
 obtain⟨eS,e2⟩:=f
 have apz:=aB
 unfold ga at aB
 have g2:al X h (.ptr b1 4)=some (.Z eS):=by rw[bR aB];rfl
 by_cases ch:eS=0
 ·have d:decide (eS=0)=true:=by simp[ch]
  refine h5 ⟨?_⟩
  refine h5 ⟨?_⟩
  refine h5 ⟨?_⟩
  refine c1 @g2 @d ⟨?_⟩
  refine⟨rfl, ?_,Zl _,λe H=>aG Zo H⟩
  unfold ga mf
  rw[bi Zo]
  simp only[ch,ZD]
  rfl
 ·have d:decide (eS=0)=false:=by simp[ch]
  refine c1 @g2 @d ⟨?_⟩
  refine⟨rfl, ?_,Zl _,λ_ _=>rfl⟩
  unfold mf
  simp only[ch,ZA]
  exact apz
def xC(I:bG):Bool:=decide (I.kind=2)||decide (I.kind=6)||decide (I.kind=24)
def aus(az:dx X){P:Nat->Prop}{I:bG}{v:J}(bA:cR X h P I v):
 aW X 179 [v] h j (λae U ar=>ae= .bool (xC I)/\U=h/\j<=ar) (λ_ _ _=>False):=by
 refine zv az (aht X) ?_
 rw[ahu]
 unfold U9
 obtain⟨b,rfl,ai,a0⟩:=bA.ptr
 by_cases W:I.kind=2
 ·have d:decide (I.kind=2)=true:=by simp[W]
  refine c1 @a0 @d ⟨?_⟩
  exact⟨by simp[xC,W],rfl,Zo⟩
 ·have d:decide (I.kind=2)=false:=by simp[W]
  by_cases cr:I.kind=6
  ·have h3:decide (I.kind=6)=true:=by simp[cr]
   refine d9 @a0 @d @h3 ⟨?_⟩
   exact⟨by simp[xC,cr],rfl,Zo⟩
  ·have h3:decide (I.kind=6)=false:=by simp[cr]
   refine d9 @a0 @d @h3 ⟨?_⟩
   exact⟨by simp[xC,W,cr],rfl,Zo⟩
end
def Fi(I:bq×J×Nat):J×J×Nat:=(.str I.1,I.2.1,I.2.2)
variable{bx:Type}[DecidableEq bx]
def mE:List (bx×J×Nat)->bx->Nat->Option (Nat×J)
 |[],_,_=>none
 |x::dw,w,i=>if x.1=w then some (i,x.2.1)else mE dw w (i+1)
def rB(dw:List (bx×J×Nat))(w:bx):Option J:=(mE dw w 0).map Prod.snd
def P5(w:bx):∀(dw:List (bx×J×Nat)) (i:Nat),mE dw w (i+1)=(mE dw w i).map λp=>(p.1+1,p.2):=by
 intro dw
 induction dw with
 |nil=>intro i;rfl
 |cons x dw am=>
  intro i
  simp only[mE]
  split
  ·rfl
  ·exact am (i+1)
def BO(x:bx×J×Nat)(dw:List (bx×J×Nat))(w:bx):rB (x::dw) w=if x.1=w then some x.2.1 else rB dw w:=by
 unfold rB
 simp only[mE]
 split
 ·rfl
 ·rw[P5];cases mE dw w 0<;>rfl
def X6(w:bx):∀(dw:List (bx×J×Nat)) (aa:Nat) (v:J),mE dw w 0=some (aa,v)->∃b,dw[aa]? =some (w,v,b):=by
 intro dw
 induction dw with
 |nil=>intro aa v a;cases a
 |cons x dw am=>
  intro aa v a
  simp only[mE]at a
  split at a
  ·rename_i I
   cases a
   exact⟨x.2.2,by simp[<-I]⟩
  ·rw[P5]at a
   cases b6:mE dw w 0 with
   |none=>rw[b6]at a;cases a
   |some p=>
    rw[b6]at a
    simp at a
    obtain⟨rfl,rfl⟩:=a
    obtain⟨b,ai⟩:=am p.1 p.2 b6
    exact⟨b,by simpa using ai⟩
def adh(w bZ:bx)(v:J)(b:Nat):∀dw:List (bx×J×Nat),rB dw w=none->rB (dw++[(w,v,b)]) bZ=if bZ=w then some v else rB dw bZ:=by
 intro dw
 induction dw with
 |nil=>
  intro _
  rw[YK,BO]
  by_cases a:bZ=w
  ·simp[a]
  ·have:¬w=bZ:=λI=>a I.symm
   simp[a,this]
 |cons x dw am=>
  intro a
  rw[BO]at a
  split at a
  ·cases a
  ·rename_i ah
   rw[List.cons_append,BO,BO,am a]
   by_cases I:x.1=bZ
   ·have:¬bZ=w:=λao=>ah (I.trans ao)
    simp[I,this]
   ·simp[I]
def adi(w bZ:bx)(v:J):∀(dw:List (bx×J×Nat)) (aa:Nat) (v0:J) (b:Nat),mE dw w 0=some (aa,v0)->rB (dw.set aa (w,v,b)) bZ=if bZ=w then some v else rB dw bZ:=by
 intro dw
 induction dw with
 |nil=>intro aa v0 b a;cases a
 |cons x dw am=>
  intro aa v0 b a
  simp only[mE]at a
  split at a
  ·rename_i I
   simp at a
   obtain⟨rfl,rfl⟩:=a
   rw[Z7,BO,BO]
   by_cases a:bZ=w
   ·simp[a]
   ·have T:¬w=bZ:=λao=>a ao.symm
    have W:¬x.1=bZ:=λao=>a (ao.symm.trans I)
    simp[a,T,W]
  ·rename_i I
   rw[P5]at a
   cases b6:mE dw w 0 with
   |none=>rw[b6]at a;cases a
   |some p=>
    rw[b6]at a
    simp at a
    obtain⟨rfl,rfl⟩:=a
    rw[Z8,BO,BO,am p.1 p.2 b b6]
    by_cases W:x.1=bZ
    ·have:¬bZ=w:=λao=>I (W.trans ao)
     simp[W,this]
    ·simp[W]
section
variable{X:co}{h U a6 aR:V an}{j ar aJ bc:Nat}
def oG(X:co)(h:V an)(r:Nat)(cV:bq->Option J):Prop:=∃dw fh,ab X h r=some (.map (dw.map Fi) fh)/\∀w,rB dw w=cV w
def oG.ad{r:Nat}{cV:bq->Option J}(a:oG X h r cV)(F:ab X U r=ab X h r):oG X U r cV:=by
 obtain⟨dw,fh,T,W⟩:=a
 exact⟨dw,fh,by rw[F];exact T,W⟩
def NJ(w:bq):m1 X 20 9 (.str w)=true:=Zk
def XL(w bZ:bq):ks X h 20 9 (.str w) (.str bZ)=some (mS w bZ):=Zk
def P2(w:bq):∀(dw:List (bq×J×Nat)) (i:Nat),findKey X h 9 (.str w) (dw.map Fi) i=some (mE dw w i):=by
 intro dw
 induction dw with
 |nil=>intro i;rfl
 |cons x dw am=>
  intro i
  simp only[ZR,Fi,findKey,XL,DS,mE]
  by_cases a:w=x.1
  ·have:x.1=w:=a.symm
   simp[this]
  ·have:¬x.1=w:=λI=>a I.symm
   simp only[a,this,Z9,ZA]
   exact am (i+1)
def as6(w:bq):nJ 20 (.str w) (.str w)=true:=by
 show mS w w=true
 rw[DS];simp
def DM{r:Nat}{cV:bq->Option J}(a:oG X h r cV)(bu:J)(w:bq)(ok:Bool):
 kJ X h 9 bu (.map r) (.str w) ok=some (match cV w with|some v=>bV ok (.tuple [v, .bool true]) v|none=>bV ok (.tuple [bu, .bool false]) bu):=by
 obtain⟨dw,fh,T,W⟩:=a
 have au:=W w
 unfold rB at au
 simp only[kJ,T,NJ,e6,P2]
 cases b6:mE dw w 0 with
 |none=>rw[b6]at au;rw[<-au];rfl
 |some p=>rw[b6]at au;rw[<-au];rfl
def Nw{r:Nat}{cV:bq->Option J}(Z:(q X).ba<=r)(a:oG X h r cV)(w:bq)(v:J):
 ∃U,vL X h j 9 (.map r) (.str w) v=some (.fE bk.undef U j)/\oG X U r (λx=>if x=w then some v else cV x)/\∀e,e≠r->ab X U e=ab X h e:=by
 obtain⟨dw,fh,T,W⟩:=a
 have aO:kD X r=true:=ln Z
 cases b9:mE dw w 0 with
 |none=>
  refine⟨Go.bk.bo X h r (some (.map ((dw++[(w,v,fh)]).map Fi) (fh+1))), ?_,⟨dw++[(w,v,fh)],fh+1,bi Z,λx=> ?_⟩,λe H=>aG Z H⟩
  ·simp only[vL,T,NJ,e6,P2,b9,bk.setObj,aO,e6,hw]
   rw[Yw]
   rfl
  ·rw[adh _ _ _ _ _ (by unfold rB;rw[b9];rfl),W]
 |some p=>
  obtain⟨aa,v0⟩:=p
  obtain⟨born,ai⟩:=X6 w dw aa v0 b9
  have dT:(dw.map Fi)[aa]? =some (.str w,v0,born):=by rw[Zt,ai];rfl
  refine⟨Go.bk.bo X h r (some (.map ((dw.set aa (w,v,born)).map Fi) fh)), ?_,⟨dw.set aa (w,v,born),fh,bi Z,λx=> ?_⟩,λe H=>aG Z H⟩
  ·simp only[vL,T,NJ,e6,P2,b9,pn,dT,as6,bk.setObj,aO,e6,hw]
   rw[List.map_set]
   rfl
  ·rw[adi w x v dw aa v0 born b9,W]
end
end
end Go.Proofs.YtpfajohmofnkfaaGreatDoor

namespace Go.Proofs.YtpfajohmofnkfaaGreatDoor
open Go.bk Go.aZ
noncomputable section
structure eJ where
 kind:Int
 d:fq
 eq:Int
 left:Int
def s5:eJ:=⟨0,⟨[],0,dU,[],0,false⟩,0,0⟩
def oB(v:eJ):List J:=[.Z v.kind, .str v.d.name, .Z v.d.at_, .bool v.d.ty.b, .bool v.d.ty.s, .Z v.d.ty.w, .str v.d.on, .Z v.d.fD, .bool v.d.no, .Z v.eq, .Z v.left]
def oK(X:co)(h:V an)(P:Nat->Prop)(cF:J)(t:bq->Option eJ):Prop:=∃b r,cF= .ptr b 0/\P b/\P r/\al X h (.ptr b 0)=some (.map r)/\oG X h r (λw=>(t w).map λv=> .agg (oB v))
section
variable{X:co}{h U a6 aR:V an}{j ar aJ bc:Nat}
def oK.ad{P bv:Nat->Prop}{cF:J}{t:bq->Option eJ}(a:oK X h P cF t)(F:∀e,P e->ab X U e=ab X h e)(aD:∀e,P e->bv e):oK X U bv cF t:=by
 obtain⟨b,r,T,W,au,aP,bK⟩:=a
 exact⟨b,r,T,aD b W,aD r au,zz (F b W) aP,bK.ad (F r au)⟩
def amB(b:Nat):dc X h .eql 68 true (.ptr b 0) .cy=some (.bool false):=Zk
def Io(az:dx X){P:Nat->Prop}{cF:J}{t:bq->Option eJ}(aM:(q X).ba<=j)(bb:oK X h P cF t)(bB:∀e,P e->e<j)(w:bq):
 aW X 34 [cF, .str w] h j (λae U ar=>ae= .tuple [.agg (oB ((t w).getD s5)), .bool (t w).isSome]/\bh X h j U ar) (λ_ _ _=>False):=by
 refine zv az (ai9 X) ?_
 rw[aja]
 unfold VZ
 obtain⟨b,r,rfl,ai,Z,a0,bs⟩:=bb
 have gp:=bB b ai
 have Bo:=bB r Z
 refine oO ?_
 generalize ea:bo X h j _=a6
 have b5:ab X a6 j=zs [.Z 0, .str [], .Z 0, .bool false, .bool false, .Z 0, .str [], .Z 0, .bool false, .Z 0, .Z 0] 11:=by rw[<-ea,bi aM];rfl
 have bT:bh X h j a6 (j+1):=by rw[<-ea];exact dR
 clear ea
 have bf:al X a6 (.ptr b 0)=some (.map r):=zz (bT.ad b gp) a0
 have FT:=bs.ad (bT.ad r Bo)
 have iJ:=DM FT (.agg [.Z 0, .str [], .Z 0, .bool false, .bool false, .Z 0, .str [], .Z 0, .bool false, .Z 0, .Z 0]) w true
 have FS:kJ X a6 9 (.agg [.Z 0, .str [], .Z 0, .bool false, .bool false, .Z 0, .str [], .Z 0, .bool false, .Z 0, .Z 0]) (.map r) (.str w) true=some (.tuple [.agg (oB ((t w).getD s5)), .bool (t w).isSome]):=by
  rw[iJ];cases t w<;>rfl
 clear iJ
 generalize (t w).getD s5=v at*
 have qE:oB v=[.Z v.kind, .str v.d.name, .Z v.d.at_, .bool v.d.ty.b, .bool v.d.ty.s, .Z v.d.ty.w, .str v.d.on, .Z v.d.fD, .bool v.d.no, .Z v.eq, .Z v.left]:=rfl
 rw[qE]at FS ⊢
 refine d9 @amB @bf @FS ⟨?_⟩
 refine fS (im (F:=11) (b:=j) (Y:=0) (n:=11) (c:=V.ofList [.Z 0, .str [], .Z 0, .bool false, .bool false, .Z 0, .str [], .Z 0, .bool false, .Z 0, .Z 0] 0 .nil) (by simp(disch:=omega) only[aG];exact b5) aM rfl Zd Zd rfl) ?_
 generalize fl:bo X _ j _=a7
 have c0:ab X a7 j=zs [.Z v.kind, .str v.d.name, .Z v.d.at_, .bool v.d.ty.b, .bool v.d.ty.s, .Z v.d.ty.w, .str v.d.on, .Z v.d.fD, .bool v.d.no, .Z v.eq, .Z v.left] 11:=by rw[<-fl,bi aM];rfl
 have cm:bh X h j a7 (j+1+1):=⟨Zo,λe H=>by rw[<-fl];simp(disch:=omega) only[aG];exact bT.ad e H⟩
 clear fl
 refine ce (bR c0) ⟨?_⟩
 exact⟨rfl,cm⟩
end
def DL(t:bq->Option eJ)(af:bq->Option Int)(f:Int×Int)(w:bq)(K:Int):Int×Int:=match t w with
 |none=>mf f 23 K
 |some v=>if v.kind=1\/1<(af w).getD 0+1 then mf f 24 K else f
def n4(af:bq->Option Int)(w:bq):Option J:=(af w).map λF=> .Z F
section
variable{X:co}{h U a6 aR:V an}{j ar aJ bc:Nat}
def atF(az:dx X){P:Nat->Prop}{b1 dh:Nat}{p cF:J}{F:Int}{t:bq->Option eJ}{af:bq->Option Int}{f:Int×Int}(aM:(q X).ba<=j)(ij:(q X).ba<=b1)(xf:(q X).ba<=dh)(yK:b1<j)(xg:dh<j)(Bd:b1≠dh)
 (aB:ga X h b1 p F cF (.map dh) f)(bb:oK X h P cF t)(bB:∀e,P e->e<j/\e≠b1/\e≠dh)(gI:oG X h dh (n4 af))(w:bq)(K:Int)(ai:0<=(af w).getD 0/\(af w).getD 0<4000000000000000000):
 aW X 121 [.ptr b1 0, .str w, .Z K] h j (λae U ar=>ae= .tuple []/\ga X U b1 p F cF (.map dh) (DL t af f w K)/\oG X U dh (n4 λx=>if x=w then some ((af w).getD 0+1)else af x)/\j<=ar/\∀e,e<j->e≠b1->e≠dh->ab X U e=ab X h e) (λ_ _ _=>False):=by
 refine zv az (agt X) ?_
 rw[agu]
 unfold Uy
 have c5:al X h (.ptr b1 2)=some cF:=by unfold ga at aB;rw[bR aB];rfl
 refine ce @c5 ⟨?_⟩
 refine(Io az aM bb (λe H=>(bB e H).1) w).Zm ?_
 rintro ae a6 aJ ⟨rfl,bT⟩
 have jF:=bT.le
 have sm:ga X a6 b1 p F cF (.map dh) f:=by unfold ga;rw[bT.ad b1 yK];exact aB
 have aow:=gI.ad (bT.ad dh xg)
 generalize bD:(t w).getD s5=v
 have qE:oB v=[.Z v.kind, .str v.d.name, .Z v.d.at_, .bool v.d.ty.b, .bool v.d.ty.s, .Z v.d.ty.w, .str v.d.on, .Z v.d.fD, .bool v.d.no, .Z v.eq, .Z v.left]:=rfl
 rw[qE]
 refine h5 ⟨?_⟩
 refine h5 ⟨?_⟩
 refine oO ?_
 refine h5 ⟨?_⟩
 generalize d2:bo X _ aJ _=aR
 have cd:ab X aR aJ=zs [.Z v.kind, .str v.d.name, .Z v.d.at_, .bool v.d.ty.b, .bool v.d.ty.s, .Z v.d.ty.w, .str v.d.on, .Z v.d.fD, .bool v.d.no, .Z v.eq, .Z v.left] 11:=by rw[<-d2,bi Zo];rfl
 have bC:bh X h j aR (aJ+1):=⟨Zo,λe H=>by rw[<-d2];simp(disch:=omega) only[aG];exact bT.ad e H⟩
 have iX:∀e,e<aJ->ab X aR e=ab X a6 e:=λe H=>by rw[<-d2];exact zu
 clear d2
 have FI:ga X aR b1 p F cF (.map dh) f:=by unfold ga;rw[iX b1 Zo];exact sm
 have aak:=aow.ad (iX dh Zo)
 have eV:al X aR (.ptr b1 3)=some (.map dh):=by unfold ga at FI;rw[bR FI];rfl
 have iJ:kJ X aR 9 (.Z 0) (.map dh) (.str w) false=some (.Z ((af w).getD 0)):=by
  rw[DM aak];unfold n4;cases af w<;>rfl
 have bH:aC .add (.Z ((af w).getD 0)) (.Z 1)=some (.Z ((af w).getD 0+1)):=eL Zo Zo
 refine d9 @eV @iJ @bH ⟨?_⟩
 obtain⟨a7,p0,aal,ob⟩:=Nw (j:=aJ+1) xf aak w (.Z ((af w).getD 0+1))
 refine ky p0 ?_
 have xd:ga X a7 b1 p F cF (.map dh) f:=by unfold ga;rw[ob b1 Bd];exact FI
 rw[<-ob aJ Zo]at cd
 have Iu:oG X a7 dh (n4 λx=>if x=w then some ((af w).getD 0+1)else af x):=by
  have:(λx=>if x=w then some (J.Z ((af w).getD 0+1))else n4 af x)=(n4 λx=>if x=w then some ((af w).getD 0+1)else af x):=by
   funext x;unfold n4;by_cases a:x=w<;>simp[a]
  rw[<-this];exact aal
 have MM:∀e,e<j->e≠dh->ab X a7 e=ab X h e:=λe T W=>by rw[ob e W];exact bC.ad e T
 clear iJ p0 aal eV
 unfold DL
 cases vl:t w with
 |none=>
  simp only[Z1,Yg]
  refine cS ⟨?_⟩
  refine(wN (j:=aJ+1) (h:=a7) az ij xd 23 K).Zm ?_
  rintro ae bw db ⟨rfl,uZ,jd,gg⟩
  refine cS ⟨?_⟩
  exact⟨by first|trivial|rfl,uZ,Iu.ad (gg dh Zo),Zo,λe T W au=>by rw[gg e W];exact MM e T au⟩
 |some g7=>
  have Dx:g7=v:=by rw[vl]at bD;exact bD
  subst Dx
  simp only[Z3,Yi]
  have fY:al X a7 (.ptr aJ 0)=some (.Z g7.kind):=by rw[bR cd];rfl
  have eV:al X a7 (.ptr b1 3)=some (.map dh):=by unfold ga at xd;rw[bR xd];rfl
  have iJ:kJ X a7 9 (.Z 0) (.map dh) (.str w) false=some (.Z ((af w).getD 0+1)):=by
   rw[DM Iu];unfold n4;simp
  by_cases T:g7.kind=1
  ·have d:decide (g7.kind=1)=true:=by simp[T]
   refine c1 @fY @d ⟨?_⟩
   refine(wN (j:=aJ+1) (h:=a7) az ij xd 24 K).Zm ?_
   rintro ae bw db ⟨rfl,uZ,jd,gg⟩
   refine cS ⟨?_⟩
   exact⟨by first|trivial|rfl,by simp only[T,true_or,ZD];exact uZ,Iu.ad (gg dh Zo),Zo,λe T W au=>by rw[gg e W];exact MM e T au⟩
  ·have d:decide (g7.kind=1)=false:=by simp[T]
   by_cases W:1<(af w).getD 0+1
   ·have cQ:decide (1<(af w).getD 0+1)=true:=by simp only[Zg];exact W
    refine fW @fY @d @eV @iJ @cQ ⟨?_⟩
    refine(wN (j:=aJ+1) (h:=a7) az ij xd 24 K).Zm ?_
    rintro ae bw db ⟨rfl,uZ,jd,gg⟩
    refine cS ⟨?_⟩
    exact⟨by first|trivial|rfl,by simp only[T,W,or_true,ZD];exact uZ,Iu.ad (gg dh Zo),Zo,λe T W au=>by rw[gg e W];exact MM e T au⟩
   ·have cQ:decide (1<(af w).getD 0+1)=false:=by simp only[Zb];exact W
    refine fW @fY @d @eV @iJ @cQ ⟨?_⟩
    exact⟨by first|trivial|rfl,by simp only[T,W,Yr,ZA];exact xd,Iu,Zo,λe T W au=>MM e T au⟩
end
def ug(t:bq->Option eJ)(f:Int×Int)(I:bG):Int×Int:=if xC I then(if (t I.name).isSome then f else mf f 23 I.at_)else f
def B9(aq:List Go.aZ.Node)(F:Nat)(f:Int×Int)(I:bG):Int×Int:=if I.kind=25 then(match m7 aq I.name with
 |none=>mf f 23 I.at_
 |some aa=>if F<=aa then mf f 25 I.at_ else f)else f
def sZ(t:bq->Option eJ)(aq:List Go.aZ.Node)(F:Nat)(f:Int×Int)(I:bG):(Int×Int)×Bool:=(B9 aq F (ug t f I) I,true)
structure EH(X:co)(gw:V an)(ba b1:Nat)(p:J)(F:Nat)(cF dh:J)(f:Int×Int)(h:V an)(j:Nat):Prop where
 le:ba<=j
 jP:ga X h b1 p F cF dh f
 low:∀e,e<ba->e≠b1->ab X h e=ab X gw e
section
variable{X:co}{h U gw a6 aR:V an}{j ar aJ bc:Nat}
def awx(az:dx X){P:Nat->Prop}{eN b1 hV:Nat}{p cF dh:J}{F:Nat}{t:bq->Option eJ}{aq:List Go.aZ.Node}(aAl:(q X).ba<=eN)(ij:(q X).ba<=b1)(yK:b1<eN)(F4:hV<eN)(MV:hV≠b1)(b6:al X gw (.ptr hV 0)=some (.ptr b1 0))
 (bB:∀e,P e->e<eN/\e≠b1)(bb:oK X gw P cF t)(b0:ns X gw P aq p){f:Int×Int}(oW:EH X gw eN b1 p F cF dh f h j){I:bG}{v:J}(bA:cR X h P I v):
 aW X 178 [v, .ptr hV 0] h j (λae U ar=>ae= .bool true/\EH X gw eN b1 p F cF dh (sZ t aq F f I).1 U ar) (λ_ _ _=>False):=by
 refine zv az (ahr X) ?_
 rw[ahs]
 unfold U8
 refine(aus az bA).Zm ?_
 rintro ae a6 aJ ⟨rfl,rfl,jF⟩
 have aAn:=oW.le
 have hz:∀h,ab X h hV=ab X gw hV->al X h (.ptr hV 0)=some (.ptr b1 0):=λh a=>zz a b6
 refine j0 (λc8 U aV=>c8.g 0=some v/\c8.g 1=some (.ptr hV 0)/\EH X gw eN b1 p F cF dh (ug t f I) U aV/\cR X U P I v) (λaa bL=> ?_) ?_
 ·obtain⟨b,_,_,_,rfl,ai,a0,bf,ck,_⟩:=id bA.open
  unfold ug at bL
  cases h8:xC I with
  |false=>
   rw[h8]at bL
   simp only[Zx,ZA]at bL
   refine cS ⟨?_⟩
   exact bL _ _ _ ⟨bp,bp,⟨Zo,oW.jP,oW.low⟩,bA⟩
  |true=>
   rw[h8]at bL
   simp only[ZD]at bL
   have RT:=hz a6 (oW.low hV F4 MV)
   have c5:al X a6 (.ptr b1 2)=some cF:=by have:=oW.jP;unfold ga at this;rw[bR this];rfl
   refine d9 @RT @c5 @ck ⟨?_⟩
   refine fk (λaR=>ab X aR (aJ+12)=zs [.Z 0, .str [], .Z 0, .bool false, .bool false, .Z 0, .str [], .Z 0, .bool false, .Z 0, .Z 0] 11/\bh X a6 aJ aR (aJ+12+1)) ⟨by rw[bi Zo];rfl,Zo,λe H=>zu⟩ ?_
   rintro aR ⟨cd,bC⟩
   have cx:∀e,e<eN->ab X aR e=ab X a6 e:=λe H=>bC.ad e Zo
   refine(Io (j:=aJ+15) (h:=aR) az Zo (bb.ad (bv:=P) (λe H=>by rw[cx e (bB e H).1];exact oW.low e (bB e H).1 (bB e H).2) (λ_ a=>a)) (λe H=>zo (bB e H).1) I.name).Zm ?_
   rintro ae a7 bd ⟨rfl,cm⟩
   have ik:=cm.le
   have c0:ab X a7 (aJ+12)=zs [.Z 0, .str [], .Z 0, .bool false, .bool false, .Z 0, .str [], .Z 0, .bool false, .Z 0, .Z 0] 11:=by rw[cm.ad _ Zo];exact cd
   generalize Dx:(t I.name).getD s5=fp
   have qE:oB fp=[.Z fp.kind, .str fp.d.name, .Z fp.d.at_, .bool fp.d.ty.b, .bool fp.d.ty.s, .Z fp.d.ty.w, .str fp.d.on, .Z fp.d.fD, .bool fp.d.no, .Z fp.eq, .Z fp.left]:=rfl
   rw[qE]
   refine h5 ⟨?_⟩
   refine h5 ⟨?_⟩
   refine fS (im (F:=11) (b:=aJ+12) (Y:=0) (n:=11) c0 Zo rfl Zd Zd rfl) ?_
   generalize eB:bo X a7 (aJ+12) _=bw
   have d5:∀e,e<aJ->ab X bw e=ab X a6 e:=λe H=>by rw[<-eB,aG Zo Zo,cm.ad e Zo,bC.ad e H]
   clear eB cd c0
   have Md:EH X gw eN b1 p F cF dh f bw bd:=⟨Zo,by have:=oW.jP;unfold ga at*;rw[d5 b1 Zo];exact this,λe T W=>by rw[d5 e Zo];exact oW.low e T W⟩
   have tM:cR X bw P I (.ptr b 0):=cR.ad (λe H=>d5 e (zo (bB e H).1)) _ _ bA
   have arb:=hz bw (Md.low hV F4 MV)
   have ajX:al X bw (.ptr b 1)=some (.Z I.at_):=zz (d5 b (zo (bB b ai).1)) bf
   cases ss:(t I.name).isSome with
   |true=>
    rw[ss]at bL
    simp only[ZD]at bL
    refine cS ⟨?_⟩
    exact bL _ _ _ ⟨bp,bp,Md,tM⟩
   |false=>
    rw[ss]at bL
    simp only[Zx,ZA]at bL
    refine c1 @arb @ajX ⟨?_⟩
    refine(wN (h:=bw) az ij Md.jP 23 I.at_).Zm ?_
    rintro ae bS cj ⟨rfl,C5,il,mJ⟩
    refine cS ⟨?_⟩
    exact bL _ _ _ ⟨bp,bp,⟨Zo,C5,λe T W=>by rw[mJ e W];exact Md.low e T W⟩,cR.ad (λe H=>mJ e (bB e H).2) _ _ tM⟩
 ·rintro M aR bc ⟨t0,t1,CZ,I0⟩
  obtain⟨b,_,_,_,rfl,ai,a0,bf,ck,_⟩:=id I0.open
  have f5:=CZ.le
  show aj _ _
  by_cases mi:I.kind=25
  ·have d:decide (I.kind=25)=true:=by simp[mi]
   have RT:=hz aR (CZ.low hV F4 MV)
   have fY:al X aR (.ptr b1 0)=some p:=by have:=CZ.jP;unfold ga at this;rw[bR this];rfl
   refine eu @t0 @t1 @a0 @d @RT @fY @ck ⟨?_⟩
   refine(LL (j:=bc+14) (h:=aR) az Zo (b0.ad (bv:=P) (λe H=>CZ.low e (bB e H).1 (bB e H).2) (λ_ a=>a)) (λe H=>zo (bB e H).1) I.name).Zm ?_
   rintro ae a7 bd ⟨rfl,cm⟩
   have ik:=cm.le
   have C0:EH X gw eN b1 p F cF dh (ug t f I) a7 bd:=⟨Zo,by have:=CZ.jP;unfold ga at*;rw[cm.ad b1 Zo];exact this,λe T W=>by rw[cm.ad e Zo];exact CZ.low e T W⟩
   have RU:=hz a7 (C0.low hV F4 MV)
   have K5:al X a7 (.ptr b 1)=some (.Z I.at_):=zz (cm.ad b (zo (bB b ai).1)) bf
   have en:al X a7 (.ptr b1 1)=some (.Z (F:Int)):=by have:=C0.jP;unfold ga at this;rw[bR this];rfl
   cases b9:m7 aq I.name with
   |none=>
    have Z:(sZ t aq F f I).1=mf (ug t f I) 23 I.at_:=by simp[sZ,B9,mi,b9]
    rw[Z]
    simp only[Z1]
    refine gl @t0 @t1 @RU @K5 ⟨?_⟩
    refine(wN (h:=a7) az ij C0.jP 23 I.at_).Zm ?_
    rintro ae bS cj ⟨rfl,C5,il,mJ⟩
    refine cS ⟨?_⟩
    exact⟨by first|trivial|rfl,Zo,C5,λe T W=>by rw[mJ e W];exact C0.low e T W⟩
   |some aa=>
    simp only[Z3,Yy]
    by_cases MG:F<=aa
    ·have cQ:decide ((F:Int)<=(aa:Int))=true:=by simp only[Zg];omega
     have Z:(sZ t aq F f I).1=mf (ug t f I) 25 I.at_:=by simp[sZ,B9,mi,b9,MG]
     rw[Z]
     refine iu @t0 @t1 @RU @K5 @en @cQ ⟨?_⟩
     refine(wN (h:=a7) az ij C0.jP 25 I.at_).Zm ?_
     rintro ae bS cj ⟨rfl,C5,il,mJ⟩
     refine cS ⟨?_⟩
     exact⟨by first|trivial|rfl,Zo,C5,λe T W=>by rw[mJ e W];exact C0.low e T W⟩
    ·have cQ:decide ((F:Int)<=(aa:Int))=false:=by simp only[Zb];omega
     have Z:(sZ t aq F f I).1=ug t f I:=by simp[sZ,B9,mi,b9,MG]
     rw[Z]
     refine fW @t0 @t1 @RU @en @cQ ⟨?_⟩
     exact⟨by first|trivial|rfl,C0⟩
  ·have d:decide (I.kind=25)=false:=by simp[mi]
   have Z:(sZ t aq F f I).1=ug t f I:=by simp[sZ,B9,mi]
   rw[Z]
   refine d9 @t0 @a0 @d ⟨?_⟩
   exact⟨by first|trivial|rfl,CZ⟩
end
def G9(t:bq->Option eJ)(aq:List Go.aZ.Node)(F:Nat)(f:Int×Int)(I:bG):Int×Int:=Cj (sZ t aq F) f I
section
variable{X:co}{h:V an}{j:Nat}
def awA(az:dx X){P:Nat->Prop}{b1:Nat}{p cF dh:J}{F:Nat}{t:bq->Option eJ}{aq:List Go.aZ.Node}(aM:(q X).ba<=j)(ij:(q X).ba<=b1)(yK:b1<j)
 (bB:∀e,P e->e<j/\e≠b1)(bb:oK X h P cF t)(b0:ns X h P aq p){f:Int×Int}(aB:ga X h b1 p F cF dh f){I:bG}{v:J}(bA:cR X h P I v):
 aW X 122 [.ptr b1 0,v] h j (λae U ar=>ae= .tuple []/\ga X U b1 p F cF dh (G9 t aq F f I)/\j<=ar/\∀e,e<j->e≠b1->ab X U e=ab X h e) (λ_ _ _=>False):=by
 refine zv az (agv X) ?_
 rw[agw]
 unfold Uz
 refine cS ⟨?_⟩
 refine fk (λa6=>ab X a6 j=zs [.ptr b1 0] 1/\bh X h j a6 (j+1)) ⟨bi aM,dR⟩ ?_
 rintro a6 ⟨b5,bT⟩
 have Sp:∀e,P e->ab X a6 e=ab X h e:=λe H=>bT.ad e (bB e H).1
 have b6:al X a6 (.ptr j 0)=some (.ptr b1 0):=by rw[bR b5];rfl
 refine(ayG az (sZ t aq F) P (EH X a6 (j+1) b1 p F cF dh) 178 [] [.ptr j 0] (λs I v aR bc e8 I0=> ?_) (SizeOf.sizeOf I+1) I Zo f v a6 (j+1) ⟨Zl _,by unfold ga at*;rw[bT.ad b1 yK];exact aB,λ_ _ _=>rfl⟩ (cR.ad Sp _ _ bA)).Zm ?_
 ·refine(awx az Zo ij Zo Zo Zo b6 (λe H=>⟨zo (bB e H).1,(bB e H).2⟩) (bb.ad (bv:=P) Sp (λ_ a=>a)) (b0.ad (bv:=P) Sp (λ_ a=>a)) e8 I0).Zm ?_
  rintro ae a7 bd ⟨rfl,oW⟩
  exact⟨rfl,oW,λe H=>by have:=bB e H;rw[oW.low e Zo this.2,e8.low e Zo this.2]⟩
 ·rintro ae aR bc ⟨rfl,oW,_⟩
  refine cS ⟨?_⟩
  have:=oW.le
  exact⟨by first|trivial|rfl,oW.jP,Zo,λe T W=>by rw[oW.low e Zo W,bT.ad e T]⟩
end
end
end Go.Proofs.YtpfajohmofnkfaaGreatDoor

