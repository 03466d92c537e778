/- Part of the proof of the last text; no conditions -/
import Derived.Test.YtbbkkkpgjaopkaaGreatDoorYr
import Derived.Test.YtbbkkkpgjaopkaaGreatDoorYs
set_option maxHeartbeats 8000000
set_option linter.all false
namespace Go.Proofs.YtbbkkkpgjaopkaaGreatDoor
open Go.bs Go.aQ
noncomputable section
def abD{x e:Int}(H: -9223372036854775808<=x*e)(K:x*e<9223372036854775808):bg .mul (.Z x) (.Z e)=some (.Z (x*e)):=by
 simp[bg,lA,l1,lu,lj,wrap64 H K]
def aqj{c:Nat}(a:c<256):bg .sub (.int .u8 (c:Int)) (.int .u8 48)=some (.int .u8 (((c+208)%256:Nat):Int)):=by
 have w:ps .u8 ((c:Int) -48)=(((c+208)%256:Nat):Int):=by
  show((c:Int) -48)%256=_
  omega
 simp only[bg,lA,l1,lu,kp,eW,lj,w,E5]
def av9(k:ba)(c:Nat):wH (k++[c])=wH k*10+(c-48):=by simp[wH,zx]
section
variable{X:cl}{h R aX aP:M ak}{j au aM be fW:Nat}{s:ba}{i:Nat}
def ae0(s:ba)(ab:y):Prop:=∃bo D,ab= .tuple [.Z bo,D]/\T1 D/\(s≠[]->s.length<19->(∀c∈s,iE c=true)->D= .nilIface/\bo=(wH s:Int))
def ai6(az:f5 X)(aE:s.length<=65536)(al:∀c∈s,c<256)(xR:Ck s)(aI:(o X).aY<=j):
 a1 X 106 [.str s] h j (λab R au=>ae0 s ab/\bp X h j R au) (λ_ _ _=>False):=by
 refine zL az.todW (afe X) ?_
 rw[aff]
 unfold Ua
 by_cases bi:s=[]
 ·subst bi
  have kq:decide ((0:Int)<((0:Nat):Int))=false:=rfl
  refine ce @kq ⟨?_⟩
  refine(abI az aE al xR aI).Zm ?_
  rintro ab bf bE ⟨⟨bo,D,rfl,bt⟩,cq⟩
  refine c7 ⟨?_⟩
  exact⟨⟨bo,D,rfl,bt,λa=>absurd rfl a⟩,cq⟩
 have m9:0<s.length:=ZH.2 bi
 have kq:decide ((0:Int)<(s.length:Int))=true:=by simp only[Zi];omega
 by_cases HW:s.length<19
 ·have cB:decide ((s.length:Int)<19)=true:=by simp only[Zi];omega
  obtain⟨c,pJ⟩:∃c,s[0]? =some c:=⟨_,Zf m9⟩
  have di:nI (.str s) (.Z 0)=some (.int .u8 (c:Int)):=A1 (i:=0) .i64 pJ
  have aA:=xR c (Zh pJ)
  have bS:decide ((c:Int)=43)=false:=by simp only[Ze];omega
  have ck:decide ((c:Int)=45)=false:=by simp only[Ze];omega
  refine g0 @kq @cB @di @bS @ck ⟨?_⟩
  refine Pd Zo ?_
  have P8:Z X (bl X h j (some (.cells (M.ofList (s.map λn:Nat=>y.int .u8 (n:Int)) 0 .nil) s.length (.grow [])))) j=some (.cells (M.ofList (s.map λn:Nat=>y.int .u8 (n:Int)) 0 .nil) s.length (.grow [])):=bn aI
  have Fg:bp X h j (bl X h j (some (.cells (M.ofList (s.map λn:Nat=>y.int .u8 (n:Int)) 0 .nil) s.length (.grow [])))) (j+1):=dM
  generalize bl X h j (some (.cells (M.ofList (s.map λn:Nat=>y.int .u8 (n:Int)) 0 .nil) s.length (.grow [])))=sY at*
  refine c7 ⟨?_⟩
  refine gK (λm I R aS=>∃(Y n p:Nat),I.g 47=some (.ej j 0 s.length 1)/\I.g 48=some (.Z (s.length:Int))/\I.g 49=some (.Z (Y:Int))/\I.g 6=some (.Z (n:Int))/\I.g 5=some (.str s)/\Y+m=s.length/\p*10^m<=10^18/\n<p/\R=sY/\j+1<=aS/\n=wH (s.take Y))
   s.length ⟨0,0,1,bF,bF,ho,ho,bF,Zo,by rw[Nat.one_mul];exact Nat.pow_le_pow_right Zo Zo,Zo,rfl,Zo,rfl⟩ ?_
  rintro m I aP be ⟨Y,n,p,TD,NP,rB,fN,t5,bD,uO,axS,rfl,lh,bu⟩
  have b6:bp X h j aP be:=⟨Zo,Fg.ad⟩
  cases m with
  |zero=>
   have fR:=zF Y s.length
   refine fA @rB @NP @t5 @fN @fR @di @ck ⟨?_⟩
   rw[ZQ Zo]at bu
   exact⟨⟨_,_,rfl, .inl rfl,λ_ _ _=>⟨rfl,by rw[bu]⟩⟩,b6⟩
  |succ m=>
   have fR:=zG Y s.length
   have bB:=zJ Y
   obtain⟨E,aD⟩:∃c,s[Y]? =some c:=⟨_,Zf Zo⟩
   have anc:=al E (Zh aD)
   have Iw:iV 1 (.ej j 0 s.length 1) (.Z (Y:Int))=some (.ptr j Y):=by rw[DD _ Zo];simp
   have mF:aV X aP (.ptr j Y)=some (.int .u8 (E:Int)):=by rw[bU P8,lE];simp[aD]
   have cp:=aqj anc
   generalize br:(E+208)%256=w at cp
   by_cases hN:9<w
   ·have i7:decide ((9:Int)<(w:Int))=true:=by simp only[Zi];omega
    refine fA @rB @NP @TD @fR @Iw @mF (Za @cp @i7) ⟨?_⟩
    refine⟨⟨_,_,rfl, .inr (.inr rfl),λ_ _ hA=> ?_⟩,b6⟩
    have:=hA E (Zh aD)
    simp[iE]at this
    omega
   ·have i7:decide ((9:Int)<(w:Int))=false:=by simp only[Ze];omega
    have QW:48<=E/\E<=57/\w=E-48:=Zo
    have eb:p*10<=10^18:=by
     have:p*10^(m+1)=(p*10)*10^m:=by rw[Nat.pow_succ];rw[Nat.mul_assoc,zB (10^m) 10]
     rw[this]at uO
     exact ZB (Y6 _ (Nat.pos_of_ne_zero Zs)) uO
    have dm:p*10*10^m<=10^18:=by
     have:p*10^(m+1)=(p*10)*10^m:=by rw[Nat.pow_succ];rw[Nat.mul_assoc,zB (10^m) 10]
     rw[this]at uO;exact uO
    have gz:p*10<=1000000000000000000:=eb
    have fj:bg .mul (.Z (n:Int)) (.Z 10)=some (.Z ((n*10:Nat):Int)):=by rw[abD Zo Zo];rfl
    have jn:k8 .i64 (.int .u8 (w:Int))=some (.Z (w:Int)):=EU Zo Zo
    have oM:bg .add (.Z ((n*10:Nat):Int)) (.Z (w:Int))=some (.Z ((n*10+w:Nat):Int)):=by rw[eK Zo Zo];rfl
    refine fA @rB @NP @TD @fR @Iw @mF (Za @cp (Za @i7 (Za @fN (Za @fj (Za @jn (Za @oM @bB)))))) ⟨?_⟩
    refine⟨m,Zo,Y+1,n*10+w,p*10,bz TD,bz NP,bF,bF,bz t5,Zo,dm,Zo,rfl,Zo, ?_⟩
    rw[YQ,aD]
    show _=wH (s.take Y++[E])
    rw[av9, <-bu,QW.2.2]
 ·have cB:decide ((s.length:Int)<19)=false:=by simp only[Ze];omega
  refine dq @kq @cB ⟨?_⟩
  refine(abI az aE al xR aI).Zm ?_
  rintro ab bf bE ⟨⟨bo,D,rfl,bt⟩,cq⟩
  refine c7 ⟨?_⟩
  exact⟨⟨bo,D,rfl,bt,λ_ a=>absurd a HW⟩,cq⟩
def ae1(s:ba)(ab:y):Prop:=∃bo D,ab= .tuple [.Z bo,D]/\(D= .nilIface\/∃b,D= .iface 155 (.ptr b 0))/\(s≠[]->s.length<19->(∀c∈s,iE c=true)->D= .nilIface/\bo=(wH s:Int))
def Wi(az:f5 X)(bP:kl X)(aE:s.length<=65536)(al:∀c∈s,c<256)(xR:Ck s)(aI:(o X).aY<=j):
 a1 X 83 [.str s] h j (λab R au=>ae1 s ab/\bp X h j R au) (λ_ _ _=>False):=by
 refine zL az.todW (ahD X) ?_
 rw[ahE]
 unfold Vw
 refine(ai6 az aE al xR aI).Zm ?_
 rintro ab bf bE ⟨⟨bo,D,rfl,bt,af⟩,cq⟩
 have jE:=cq.le
 rcases bt with rfl|rfl|rfl
 ·refine ce @DU ⟨?_⟩
  exact⟨⟨_,_,rfl, .inl rfl,af⟩,cq⟩
 ·refine ce @Gg ⟨?_⟩
  refine(Lk (j:=bE) (h:=bf) az bP [65,116,111,105] (.Z 0) (.Z 0) aE al (ZB aI jE) (q:=1) Zd).Zm ?_
  rintro ab bT b3 ⟨⟨b,rfl⟩,dA⟩
  refine c7 ⟨?_⟩
  exact⟨⟨_,_,rfl, .inr ⟨b,rfl⟩,λH K am=>absurd (af H K am).1 Zs⟩,cq.trans dA⟩
 ·refine ce @Gg ⟨?_⟩
  refine(Lk (j:=bE) (h:=bf) az bP [65,116,111,105] (.Z 0) (.Z 0) aE al (ZB aI jE) (q:=2) Zd).Zm ?_
  rintro ab bT b3 ⟨⟨b,rfl⟩,dA⟩
  refine c7 ⟨?_⟩
  exact⟨⟨_,_,rfl, .inr ⟨b,rfl⟩,λH K am=>absurd (af H K am).1 Zs⟩,cq.trans dA⟩
end
def kB(t:iO):Bool:=if t.b then !t.s&&decide (t.w=1)else decide (1<=t.w)&&decide (t.w<=64)
def js(n:Nat):ba:=if n<10 then[48+n]else[48+n/10,48+n%10]
def mS(t:iO):ba:=if kB t then(if t.b then[98,111,111,108]else(if t.s then 105 else 117)::js t.w.toNat)else[]
def k2:ba->Option iO
 |[]=>none
 |c::k=>if c::k=[98,111,111,108]then some ⟨true,false,1⟩
  else if c=105\/c=117 then((List.range 65).find? λn=>decide (1<=n)&&decide (js n=k)).map λn:Nat=>⟨false,decide (c=105),(n:Int)⟩
  else none
section
variable{X:cl}{h R aX aP:M ak}{j au aM be fW:Nat}{s:ba}{i:Nat}
def DO(az:dW X)(t:iO)(aI:(o X).aY<=j):a1 X 84 [.agg (k0 t)] h j (λab R au=>ab= .bool (kB t)/\bp X h j R au) (λ_ _ _=>False):=by
 refine zL az (ahF X) ?_
 rw[ahG]
 unfold Vx k0
 obtain⟨b,s,w⟩:=t
 cases b<;>cases s
 all_goals
  by_cases H:1<=w
  ·have cB:decide ((1:Int)<=w)=true:=by simp[H]
   refine ce @cB ⟨?_⟩
   exact⟨by simp[kB,H],dM⟩
  ·have cB:decide ((1:Int)<=w)=false:=by simp[H]
   refine ce @cB ⟨?_⟩
   exact⟨by simp[kB,H],dM⟩
def auU:∀n<10,([48,49,50,51,52,53,54,55,56,57,97,98,99,100,101,102,103,104,105,106,107,108,109,110,111,112,113,114,115,116,117,118,119,120,121,122].drop n).take (n+1-n)=js n:=by decide+kernel
def NM:ba:=[48,48,48,49,48,50,48,51,48,52,48,53,48,54,48,55,48,56,48,57,49,48,49,49,49,50,49,51,49,52,49,53,49,54,49,55,49,56,49,57,50,48,50,49,50,50,50,51,50,52,50,53,50,54,50,55,50,56,50,57,51,48,51,49,51,50,51,51,51,52,51,53,51,54,51,55,51,56,51,57,52,48,52,49,52,50,52,51,52,52,52,53,52,54,52,55,52,56,52,57,53,48,53,49,53,50,53,51,53,52,53,53,53,54,53,55,53,56,53,57,54,48,54,49,54,50,54,51,54,52,54,53,54,54,54,55,54,56,54,57,55,48,55,49,55,50,55,51,55,52,55,53,55,54,55,55,55,56,55,57,56,48,56,49,56,50,56,51,56,52,56,53,56,54,56,55,56,56,56,57,57,48,57,49,57,50,57,51,57,52,57,53,57,54,57,55,57,56,57,57]
def auW:NM.length=200:=by decide+kernel
def auV:∀n<100,10<=n->(NM.drop (n*2)).take (n*2+2-n*2)=js n:=by decide+kernel
def MC(az:dW X){n:Nat}(aI:n<100):a1 X 107 [.Z (n:Int)] h j (λab R au=>ab= .str (js n)/\R=h/\au=j) (λ_ _ _=>False):=by
 refine zL az (afg X) ?_
 rw[afh]
 unfold Ub
 refine zL az (afy X) ?_
 rw[afz]
 unfold Uj
 refine zL az (afE X) ?_
 rw[afF]
 unfold Un
 have kq:decide ((0:Int)<=(n:Int))=true:=by simp only[Zi];omega
 have cB:decide ((n:Int)<100)=true:=by simp only[Zi];omega
 refine dq @kq @cB ⟨?_⟩
 refine zL az (afK X) ?_
 rw[afL]
 unfold Uq
 by_cases a:n<10
 ·have cC:decide ((n:Int)<10)=true:=by simp only[Zi];omega
  have bB:=zJ n
  have cp:mT (.str [48,49,50,51,52,53,54,55,56,57,97,98,99,100,101,102,103,104,105,106,107,108,109,110,111,112,113,114,115,116,117,118,119,120,121,122]) (some (.Z (n:Int))) (some (.Z ((n+1:Nat):Int)))=some (.str (js n)):=by
   rw[Tp .i64 .i64 Zo Zx,auU n a]
  refine eP @cC @bB @cp ⟨?_⟩
  exact⟨rfl,rfl,rfl⟩
 ·have cC:decide ((n:Int)<10)=false:=by simp only[Ze];omega
  have bB:bg .mul (.Z (n:Int)) (.Z 2)=some (.Z ((n*2:Nat):Int)):=by rw[abD Zo Zo];rfl
  have cp:bg .add (.Z ((n*2:Nat):Int)) (.Z 2)=some (.Z ((n*2+2:Nat):Int)):=by rw[eK Zo Zo];rfl
  have fj:mT (.str NM) (some (.Z ((n*2:Nat):Int))) (some (.Z ((n*2+2:Nat):Int)))=some (.str (js n)):=by
   rw[Tp .i64 .i64 Zo (zE auW),auV n aI Zo]
  unfold NM at fj
  refine g6 @cC @bB @cp @fj ⟨?_⟩
  exact⟨rfl,rfl,rfl⟩
def auu(az:dW X)(t:iO)(aI:(o X).aY<=j):a1 X 85 [.agg (k0 t)] h j (λab R au=>ab= .str (mS t)/\bp X h j R au) (λ_ _ _=>False):=by
 refine zL az (ahH X) ?_
 rw[ahI]
 unfold Vy
 have a8:k0 t=[.bool t.b, .bool t.s, .Z t.w]:=rfl
 rw[a8]
 refine c7 ⟨?_⟩
 refine e8 (λaX=>Z X aX j=zI [.bool t.b, .bool t.s, .Z t.w] 3/\bp X h j aX (j+1)) ⟨bn aI,dM⟩ ?_
 rintro aX ⟨g1,bY⟩
 refine(DO az t Zo).Zm ?_
 rintro ab aP be ⟨rfl,b6⟩
 have f1:=b6.le
 have bP:=bY.trans b6
 have b5:Z X aP j=zI [.bool t.b, .bool t.s, .Z t.w] 3:=by rw[b6.ad _ Zo];exact g1
 have d9:aV X aP (.ptr j 0)=some (.bool t.b):=by rw[bU b5];rfl
 have dl:aV X aP (.ptr j 1)=some (.bool t.s):=by rw[bU b5];rfl
 have dx:aV X aP (.ptr j 2)=some (.Z t.w):=by rw[bU b5];rfl
 cases bc:kB t with
 |false=>
  refine c7 ⟨?_⟩
  exact⟨by simp[mS,bc],bP⟩
 |true=>
  cases mK:t.b with
  |true=>
   rw[mK]at d9
   refine ce @d9 ⟨?_⟩
   exact⟨by simp[mS,bc,mK],bP⟩
  |false=>
   rw[mK]at d9
   have br:1<=t.w/\t.w<=64:=by simpa[kB,mK]using bc
   obtain⟨w,xW⟩:=Yc (by omega:0<=t.w)
   rw[xW]at dx
   have aF:js t.w.toNat=js w:=by rw[xW];rfl
   have eO:(js w).length<=2:=by unfold js;split<;>simp
   have qX:∀h c,dD X h .add 9 true (.str [c]) (.str (js w))=some (.str (c::js w)):=λh c=>by
    have:Nat.ble ([c].length+(js w).length) 1000000000=true:=jP Zx
    simp only[dD,wZ,this,eW];rfl
   cases ly:t.s with
   |true=>
    rw[ly]at dl
    refine eP @d9 @dl @dx ⟨?_⟩
    refine(MC az Zo).Zm ?_
    rintro ab bf bE ⟨rfl,rfl,rfl⟩
    refine ce @qX ⟨?_⟩
    exact⟨by simp[mS,bc,mK,ly,aF],bP⟩
   |false=>
    rw[ly]at dl
    refine eP @d9 @dl @dx ⟨?_⟩
    refine(MC az Zo).Zm ?_
    rintro ab bf bE ⟨rfl,rfl,rfl⟩
    refine ce @qX ⟨?_⟩
    exact⟨by simp[mS,bc,mK,ly,aF],bP⟩
end
def I9{n:Nat}(a:n<100):js n≠[]/\(js n).length<19/\(∀c∈js n,iE c=true)/\wH (js n)=n:=by
 unfold js
 split
 ·refine⟨Zs,Zs, ?_, ?_⟩
  ·intro c aA;simp at aA;subst aA;simp[iE];omega
  ·simp[wH]
 ·refine⟨Zs,Zs, ?_, ?_⟩
  ·intro c aA;simp at aA;rcases aA with rfl|rfl<;>simp[iE]<;>omega
  ·simp[wH];omega
def NW(c:Nat)(k:ba):k2 (c::k)=if c::k=[98,111,111,108]then some ⟨true,false,1⟩
 else if c=105\/c=117 then((List.range 65).find? λn=>decide (1<=n)&&decide (js n=k)).map λn:Nat=>⟨false,decide (c=105),(n:Int)⟩
 else none:=rfl
def GI{c:Nat}{k:ba}{t:iO}(a:k2 (c::k)=some t)(al:c::k≠[98,111,111,108]):(c=105\/c=117)/\∃n:Nat,1<=n/\n<=64/\js n=k/\t=⟨false,decide (c=105),(n:Int)⟩:=by
 rw[NW]at a
 rw[Zg al]at a
 split at a
 ·rename_i aA
  refine⟨aA, ?_⟩
  simp only[Yk]at a
  obtain⟨n,H,K⟩:=a
  have am:=List.find?_some H
  have aC:=List.mem_of_find?_eq_some H
  simp at am aC
  exact⟨n,am.1,Zo,am.2,K.symm⟩
 ·cases a
def aev{c:Nat}{k:ba}(a:k2 (c::k)=none)(aA:c=105\/c=117){n:Nat}(H:1<=n)(K:n<=64):js n≠k:=by
 intro aI
 rw[NW]at a
 split at a
 ·cases a
 ·first
  |rw[Zu aA]at a
  |skip
  simp at a
  exact a n Zo H aI
def bp.set{C:aT}{h aX:M ak}{j aM b aS:Nat}{cK:Option ak}(a:bp C h j aX aM)(al:j<=b)(bi:C.aY<=j)(aI:aM<=aS):bp C h j (bl C aX b cK) aS:=
 ⟨ZB a.le aI,λe B=>by rw[aL Zo Zo];exact a.ad e B⟩
section
variable{X:cl}{h R aX aP:M ak}{j au aM be fW:Nat}{s:ba}{i:Nat}
def aeu(az:f5 X)(bP:kl X)(aE:s.length<=65536)(al:∀c∈s,c<256)(xR:Ck s)(aI:(o X).aY<=j):
 a1 X 56 [.str s] h j (λab R au=>ab= .tuple [.agg (k0 ((k2 s).getD dr)), .bool (k2 s).isSome]/\bp X h j R au) (λ_ _ _=>False):=by
 refine zL az.todW (agV X) ?_
 rw[agW]
 unfold U1
 by_cases vT:s=[98,111,111,108]
 ·have d:decide (s=[98,111,111,108])=true:=by simp[vT]
  refine ce @d ⟨?_⟩
  exact⟨by subst vT;rfl,dM⟩
 have d:decide (s=[98,111,111,108])=false:=by simp[vT]
 cases s with
 |nil=>
  have cC:decide (([]:List Nat)=[])=true:=rfl
  refine dq @d @cC ⟨?_⟩
  exact⟨rfl,dM⟩
 |cons c k=>
  have cC:decide (c::k=[])=false:=by simp
  have di:nI (.str (c::k)) (.Z 0)=some (.int .u8 (c:Int)):=A1 (i:=0) .i64 rfl
  by_cases aA:c=105\/c=117
  ·have jF:mT (.str (c::k)) (some (.Z 1)) none=some (.str k):=NK (k:=1) .i64 Zs
   have eO:k.length<=65536:=by simp at aE;omega
   have Db:∀c∈k,c<256:=λx af=>al x (Zn _ af)
   have aoz:Ck k:=λx af=>xR x (Zn _ af)
   have dI:∃b4 cr,decide ((c:Int)≠117)=b4/\decide ((c:Int)≠105)=cr/\(b4=false\/b4=true/\cr=false):=by
    rcases aA with rfl|rfl
    ·exact⟨true,false,rfl,rfl, .inr ⟨rfl,rfl⟩⟩
    ·exact⟨false,true,rfl,rfl, .inl rfl⟩
   obtain⟨b4,cr,dI,iy,uw⟩:=dI
   have fR:decide ((c:Int)=105)=decide (c=105):=by simp;omega
   rcases uw with rfl|⟨rfl,rfl⟩
   all_goals
    refine kr @d @cC @di @dI @iy @jF ⟨?_⟩
    refine e8 (λaX=>Z X aX j=zI [.zF, .zF, .Z 0] 3/\bp X h j aX (j+1)) ⟨bn aI,dM⟩ ?_
    rintro aX ⟨g1,bY⟩
    refine(Wi az bP eO Db aoz Zo).Zm ?_
    rintro ab aP be ⟨⟨bo,D,rfl,bt,af⟩,b6⟩
    have f1:=b6.le
    have b5:Z X aP j=zI [.zF, .zF, .Z 0] 3:=by rw[b6.ad _ Zo];exact g1
    have mB:=bY.trans b6
    refine dq @di @fR ⟨?_⟩
    generalize fE:bl X _ be _=bf
    have cR:Z X bf j=zI [.zF, .zF, .Z 0] 3:=by rw[<-fE];simp(disch:=omega) only[aL];exact b5
    have ep:Z X bf be=zI [.zF, .bool (decide (c=105)), .Z bo] 3:=by rw[<-fE];rw[bn Zo];rfl
    have cq:bp X h j bf (be+1):=mB.trans (by rw[<-fE];exact dM)
    clear fE
    rcases bt with rfl|⟨b,rfl⟩
    ·refine dq @DU (bU ep) ⟨?_⟩
     refine(DO (j:=be+1) (h:=bf) az.todW ⟨false,decide (c=105),bo⟩ (ZB aI cq.le)).Zm ?_
     rintro ab bT b3 ⟨rfl,dA⟩
     have je:=dA.le
     have fw:Z X bT j=zI [.zF, .zF, .Z 0] 3:=by rw[dA.ad _ Zo];exact cR
     have dU:Z X bT be=zI [.zF, .bool (decide (c=105)), .Z bo] 3:=by rw[dA.ad _ Zo];exact ep
     cases bc:kB ⟨false,decide (c=105),bo⟩with
     |false=>
      have a8:k2 (c::k)=none:=by
       cases a8:k2 (c::k)with
       |none=>rfl
       |some t=>
        obtain⟨_,n,H,K,am,rfl⟩:=GI a8 vT
        obtain⟨cF,cH,d7,fU⟩:=I9 (by omega:n<100)
        rw[am]at cF cH d7 fU
        have:=(af cF cH d7).2
        rw[fU]at this
        subst this
        simp[kB]at bc
        omega
      rw[a8]
      refine ce (bU fw) ⟨?_⟩
      exact⟨rfl,bp.set (cq.trans dA) Zo aI Zo⟩
     |true=>
      have cf:1<=bo/\bo<=64:=by simpa[kB]using bc
      obtain⟨n,rfl⟩:=Yc (by omega:0<=bo)
      refine ce (bU dU) ⟨?_⟩
      refine(auu (j:=b3) (h:=bT) az.todW ⟨false,decide (c=105),(n:Int)⟩ Zo).Zm ?_
      rintro ab bZ ct ⟨rfl,dC⟩
      have hQ:=dC.le
      have eu:Z X bZ j=zI [.zF, .zF, .Z 0] 3:=by rw[dC.ad _ Zo];exact fw
      have hf:Z X bZ be=zI [.zF, .bool (decide (c=105)), .Z (n:Int)] 3:=by rw[dC.ad _ Zo];exact dU
      have Dt:mS ⟨false,decide (c=105),(n:Int)⟩=c::js n:=by
       rcases aA with rfl|rfl<;>simp[mS,bc]<;>simp_all
      have H1:=(cq.trans dA).trans dC
      by_cases aB:js n=k
      ·have a8:k2 (c::k)=some ⟨false,decide (c=105),(n:Int)⟩:=by
        cases a8:k2 (c::k)with
        |none=>exact absurd aB (aev a8 aA Zo Zo)
        |some t=>
         obtain⟨_,aS,H,K,am,rfl⟩:=GI a8 vT
         obtain⟨cF,cH,d7,fU⟩:=I9 (by omega:n<100)
         obtain⟨_,_,_,mv⟩:=I9 (by omega:aS<100)
         rw[am, <-aB,fU]at mv
         rw[mv]
       have i7:decide (mS ⟨false,decide (c=105),(n:Int)⟩≠c::k)=false:=by rw[Dt,aB];simp
       rw[a8]
       refine dq @i7 (bU hf) ⟨?_⟩
       refine⟨rfl,bp.set H1 Zo aI Zo⟩
      ·have a8:k2 (c::k)=none:=by
        cases a8:k2 (c::k)with
        |none=>rfl
        |some t=>
         obtain⟨_,aS,H,K,am,rfl⟩:=GI a8 vT
         obtain⟨cF,cH,d7,fU⟩:=I9 (by omega:aS<100)
         rw[am]at cF cH d7 fU
         have:=(af cF cH d7).2
         rw[fU]at this
         have:n=aS:=Zo
         subst this
         exact absurd am aB
       have i7:decide (mS ⟨false,decide (c=105),(n:Int)⟩≠c::k)=true:=by rw[Dt];simp[aB]
       rw[a8]
       refine ce @i7 ⟨?_⟩
       exact⟨rfl,bp.set H1 Zo aI Zo⟩
    ·have a8:k2 (c::k)=none:=by
      cases a8:k2 (c::k)with
      |none=>rfl
      |some t=>
       obtain⟨_,n,H,K,am,rfl⟩:=GI a8 vT
       obtain⟨cF,cH,d7,fU⟩:=I9 (by omega:n<100)
       rw[am]at cF cH d7 fU
       exact absurd (af cF cH d7).1 Zs
     rw[a8]
     refine ce @acO ⟨?_⟩
     exact⟨rfl,bp.set cq Zo aI Zo⟩
  ·have dI:decide ((c:Int)≠117)=true:=by simp only[Zi];omega
   have iy:decide ((c:Int)≠105)=true:=by simp only[Zi];omega
   refine g0 @d @cC @di @dI @iy ⟨?_⟩
   have a8:k2 (c::k)=none:=by rw[NW];rw[Zg vT,Zg aA]
   rw[a8]
   exact⟨rfl,dM⟩
end
def By(w:Int):Int:=(18446744073709551615:Int).fdiv (2^(min (64-w).toNat 64))
def Hj(x e:Int):Int:=ps .u64 ((BitVec.ofInt 64 x&&& ~~~ BitVec.ofInt 64 e).toNat)
def DC(t:iO)(n:Int):Bool:=kB t&&decide (Hj n (By t.w)=0)
def uN(t:iO)(n:Int):Bool:=if t.s then(if t.w-1=0 then decide (n=0)else DC ⟨false,false,t.w-1⟩ n)else DC t n
def tS:List ba:=[[110,111,100,101],[114,101,116,117,114,110,115],[118,97,114],[108,101,116],[116,101,108],[119,104,101,110],[110,111,116],[112,114,101],[102,98,121],[109,101,114,103,101],
 [105,102],[116,104,101,110],[101,108,115,101],[97,110,100],[111,114],[120,111,114],[116,114,117,101],[102,97,108,115,101]]
structure Kq(X:cl):Prop where
 at_:∃v,∀h,aV X h (.ptr 2 0)=some v/\∀s:ba,nd X h 9 .zF v (.str s) false=some (.bool (decide (s∈tS)))
section
variable{X:cl}{h R aX aP:M ak}{j au aM be fW:Nat}{s:ba}{i:Nat}
def at2(az:dW X)(c2:Kq X)(s:ba):a1 X 58 [.str s] h j (λab R au=>ab= .bool (decide (s∈tS))/\R=h/\au=j) (λ_ _ _=>False):=by
 refine zL az (agZ X) ?_
 rw[ag0]
 unfold U3
 obtain⟨v,bu⟩:=c2.at_
 obtain⟨H,K⟩:=bu h
 have am:=K s
 refine dq @H @am ⟨?_⟩
 exact⟨rfl,rfl,rfl⟩
def asZ(az:dW X)(t:iO)(a8:1<=t.w/\t.w<=64)(aI:(o X).aY<=j):a1 X 108 [.agg (k0 t)] h j (λab R au=>ab= .int .u64 (By t.w)/\bp X h j R au) (λ_ _ _=>False):=by
 refine zL az (afi X) ?_
 rw[afj]
 unfold Uc k0
 have bB:bg .sub (.Z 64) (.Z t.w)=some (.Z (64-t.w)):=xY Zo Zo
 have cp:bg .shr (.int .u64 18446744073709551615) (.Z (64-t.w))=some (.int .u64 (By t.w)):=by
  have:decide ((64-t.w)<0)=false:=by simp only[Ze];omega
  simp only[bg,lA,eW,Hh,tz,this,kp,o7,E5]
  rfl
 refine dq @bB @cp ⟨?_⟩
 exact⟨rfl,dM⟩
def MX{t:iO}(a:kB t=true):1<=t.w/\t.w<=64:=by
 unfold kB at a
 split at a<;>simp at a<;>omega
def abL(az:dW X)(t:iO)(n:Int)(aI:(o X).aY<=j):a1 X 86 [.agg (k0 t), .int .u64 n] h j (λab R au=>ab= .bool (DC t n)/\bp X h j R au) (λ_ _ _=>False):=by
 refine zL az (ahJ X) ?_
 rw[ahK]
 unfold Vz
 have a8:k0 t=[.bool t.b, .bool t.s, .Z t.w]:=rfl
 rw[a8]
 refine c7 ⟨?_⟩
 refine e8 (λaX=>Z X aX j=zI [.bool t.b, .bool t.s, .Z t.w] 3/\bp X h j aX (j+1)) ⟨bn aI,dM⟩ ?_
 rintro aX ⟨g1,bY⟩
 refine(DO az t Zo).Zm ?_
 rintro ab aP be ⟨rfl,b6⟩
 have f1:=b6.le
 have bP:=bY.trans b6
 have b5:Z X aP j=zI [.bool t.b, .bool t.s, .Z t.w] 3:=by rw[b6.ad _ Zo];exact g1
 cases bc:kB t with
 |false=>
  refine c7 ⟨?_⟩
  exact⟨by simp[DC,bc],bP⟩
 |true=>
  refine ce (bU b5) ⟨?_⟩
  refine(asZ (j:=be) (h:=aP) az t (MX bc) Zo).Zm ?_
  rintro ab bf bE ⟨rfl,cq⟩
  have bB:bg .andNot (.int .u64 n) (.int .u64 (By t.w))=some (.int .u64 (Hj n (By t.w))):=by
   simp only[bg,lA,kp,l1,eW,lu,lj,E5];rfl
  refine ce @bB ⟨?_⟩
  exact⟨by simp[DC,bc],bP.trans cq⟩
def aoX(az:dW X)(t:iO)(a8:kB t=true)(n:Int)(aI:(o X).aY<=j):a1 X 57 [.agg (k0 t), .int .u64 n] h j (λab R au=>ab= .bool (uN t n)/\bp X h j R au) (λ_ _ _=>False):=by
 refine zL az (agX X) ?_
 rw[agY]
 unfold U2
 have br:=MX a8
 have f8:k0 t=[.bool t.b, .bool t.s, .Z t.w]:=rfl
 rw[f8]
 have bB:bg .sub (.Z t.w) (.Z 1)=some (.Z (t.w-1)):=xY Zo Zo
 cases ly:t.s with
 |false=>
  refine c7 ⟨?_⟩
  refine e8 (λaX=>bp X h j aX (j+1)) dM ?_
  intro aX bY
  have:=abL (j:=j+1) (h:=aX) az t n Zo
  rw[f8,ly]at this
  refine this.Zm ?_
  rintro ab aP be ⟨rfl,b6⟩
  refine c7 ⟨?_⟩
  exact⟨by simp[uN,ly],bY.trans b6⟩
 |true=>
  by_cases bi:t.w-1=0
  ·have d:decide (t.w-1=0)=true:=by simp[bi]
   refine dq @bB @d ⟨?_⟩
   refine gi (jJ (q:=3) (b:=j) (W:=0) (n:=3) (c:=M.ofList [.bool t.b, .zT, .Z t.w] 0 .nil) (bn aI) Zo rfl Zd Zd rfl) ?_
   refine ce @d ⟨?_⟩
   exact⟨by simp[uN,ly,bi],dM⟩
  ·have d:decide (t.w-1=0)=false:=by simp[bi]
   refine dq @bB @d ⟨?_⟩
   refine gi (jJ (q:=3) (b:=j) (W:=0) (n:=3) (c:=M.ofList [.bool t.b, .zT, .Z t.w] 0 .nil) (bn aI) Zo rfl Zd Zd rfl) ?_
   refine ce @d ⟨?_⟩
   refine e8 (λaX=>bp X h j aX (j+1)) dM ?_
   intro aX bY
   refine(abL (j:=j+1) (h:=aX) az ⟨false,false,t.w-1⟩ n Zo).Zm ?_
   rintro ab aP be ⟨rfl,b6⟩
   refine c7 ⟨?_⟩
   exact⟨by simp[uN,ly,bi],bY.trans b6⟩
end
def tK(s:ba)(i:Nat):Tok×Bool:=
 let w:=(s.drop i).takeWhile iU
 (⟨if (k2 w).isSome then 3 else if w∈tS then 2 else 1,w,0,0,(k2 w).getD dr⟩,decide (w.length<=32))
def ac2{k:ba}(a:∀c∈k,iU c=true):Ck k:=by
 intro c aA
 have:=a c aA
 simp[iU,qC,iE]at this
 omega
def aem{α:Type}(p:α->Bool):∀k:List α,∀c∈k.takeWhile p,p c=true:=by
 intro k
 induction k with
 |nil=>simp
 |cons E k aj=>
  intro c aA
  rw[YJ]at aA
  split at aA
  ·rcases Zr.1 aA with rfl|aA
   ·assumption
   ·exact aj c aA
  ·simp at aA
section
variable{X:cl}{h R aX aP:M ak}{j au aM be fW:Nat}{s:ba}{i:Nat}
def SF(V:m2 X h fW s i)(al:∀c∈s,c<256)(Y:Nat)(p:Nat->Bool)(ay:∀c,p c=true->iU c=true):((s.drop Y).takeWhile p).length<=65536/\(∀c∈(s.drop Y).takeWhile p,c<256)/\Ck ((s.drop Y).takeWhile p):=by
 have H:=El p (s.drop Y)
 rw[Ye]at H
 have:=V.many
 refine⟨Zo,λc aA=>al c (YP ((List.takeWhile_sublist p).subset aA)),ac2 λc aA=>ay c (aem p _ c aA)⟩
def awq(az:f5 X)(bP:kl X)(c2:Kq X)(V:m2 X h fW s i)(al:∀c∈s,c<256)(aI:(o X).aY<=j)(IN:fW<j):
 a1 X 34 [.ptr fW 0] h j (λab R au=>ab= .tuple [.agg (b0 (tK s i).1), .bool (tK s i).2]/\bp X h j R au) (λ_ _ _=>False):=by
 refine zL az.todW (agn X) ?_
 rw[ago]
 unfold UJ
 have dl:=V.dl
 have hB:=V.ch
 obtain⟨cF,cH,d7⟩:=SF V al i iU (λ_ a=>a)
 have sq:∀cK,m2 X (bl X h j cK) fW s i:=λcK=>V.ad (aL aI Zo)
 refine ce @dl ⟨?_⟩
 refine(NH az.todW (adW az.todW) (sq _) V.le).Zm ?_
 rintro ab aP be ⟨rfl,rfl,rfl⟩
 unfold tK
 generalize (s.drop i).takeWhile iU=w at*
 simp only[]
 refine c7 ⟨?_⟩
 refine e8 (λaX=>Z X aX j=zI [.Z 0, .str [], .Z 0, .int .u64 0, .zF, .zF, .Z 0] 7/\Z X aX (j+1)=zI [.Z 1, .str w, .Z 0, .int .u64 0, .zF, .zF, .Z 0] 7/\bp X h j aX (j+1+1)) ⟨by simp(disch:=omega) only[aL,bn]<;>rfl,by rw[bn Zo];rfl,dM⟩ ?_
 rintro aX ⟨g1,b5,bY⟩
 refine(aeu az bP cF cH d7 Zo).Zm ?_
 rintro ab bf bE ⟨rfl,cq⟩
 have jE:=cq.le
 have sc:=bY.trans cq
 have cR:Z X bf j=zI [.Z 0, .str [], .Z 0, .int .u64 0, .zF, .zF, .Z 0] 7:=by rw[cq.ad _ Zo];exact g1
 have ep:Z X bf (j+1)=zI [.Z 1, .str w, .Z 0, .int .u64 0, .zF, .zF, .Z 0] 7:=by rw[cq.ad _ Zo];exact b5
 generalize a8:(k2 w).getD dr=t
 have Dw:k0 t=[.bool t.b, .bool t.s, .Z t.w]:=rfl
 rw[Dw]
 have PC:decide ((w.length:Int)<=32)=decide (w.length<=32):=by simp;omega
 have fin:∀(b9:M ak) (dP:Nat) (q:Int) (ga:iO) (ug:M y),bE<=dP->bp X h j b9 dP->Z X b9 (j+1)=some (.cells ug 7 .own)->Z X b9 j=zI [.Z 0, .str [], .Z 0, .int .u64 0, .zF, .zF, .Z 0] 7->
  ug.get 0=some (.Z q)->ug.get 1=some (.str w)->ug.get 2=some (.Z 0)->ug.get 3=some (.int .u64 0)->ug.get 4=some (.bool ga.b)->ug.get 5=some (.bool ga.s)->ug.get 6=some (.Z ga.w)->
  av (dT X b9 7 (.ptr (j+1) 0)) λav1=>av (mq (.str w)) λav2=>av (bg .leq av2 (.Z 32)) λav3=>av (es X b9 7 (.ptr j 0) av1) λVO=>av (dT X VO 7 (.ptr j 0)) λv37=>
   y.tuple [v37,av3]= .tuple [.agg (b0 ⟨q,w,0,0,ga⟩), .bool (decide (w.length<=32))]/\bp X h j VO dP:=by
  intro b9 dP q ga ug Rn eY dU eu ky bS ck cM eL eM dS
  have fb:=jW dU ky;have dv:=jW dU bS;have cD:=jW dU ck;have ec:=jW dU cM;have fl:=jW dU eL;have fG:=jW dU eM;have kz:=jW dU dS
  refine fA @fb @dv @cD @ec @fl @fG (Za @kz @PC) ⟨?_⟩
  exact⟨rfl,bp.set eY (Zj _) aI (Zj _)⟩
 cases sl:(k2 w).isSome with
 |true=>
  refine hU ⟨?_⟩
  refine hU ⟨?_⟩
  refine hU ⟨?_⟩
  refine hU ⟨?_⟩
  refine hU ⟨?_⟩
  generalize iC:bl X _ bE _=bT
  have fw:Z X bT bE=zI [.bool t.b, .bool t.s, .Z t.w] 3:=by rw[<-iC,bn Zo];rfl
  have dU:Z X bT j=zI [.Z 0, .str [], .Z 0, .int .u64 0, .zF, .zF, .Z 0] 7:=by rw[<-iC];simp(disch:=omega) only[aL];exact cR
  have eu:Z X bT (j+1)=zI [.Z 1, .str w, .Z 0, .int .u64 0, .zF, .zF, .Z 0] 7:=by rw[<-iC];simp(disch:=omega) only[aL];exact ep
  have dA:bp X h j bT (bE+1):=sc.trans (by rw[<-iC];exact dM)
  clear iC cR ep
  refine ce (bU fw) ⟨?_⟩
  refine j0 (by simp[y.same,qE,ry]) ?_
  generalize iS:bl X bT (j+1) _=bZ
  have bm:∀e,e≠j+1->Z X bZ e=Z X bT e:=λe B=>by rw[<-iS,aL Zo B]
  have hf:Z X bZ (j+1)=some (.cells (d3 (M.ofList [.Z 1, .str w, .Z 0, .int .u64 0, .zF, .zF, .Z 0] 0 .nil) 0 [.Z 3]) 7 .own):=by rw[<-iS,bn Zo];rfl
  rw[<-bm _ Zo]at fw dU
  have dC:bp X h j bZ (bE+1):=⟨dA.le,λe B=>by rw[bm e Zo];exact dA.ad e B⟩
  clear iS bm eu
  refine gi (jJ (q:=3) (b:=j+1) (W:=4) (n:=7) hf Zo rfl Zd Zd rfl) ?_
  generalize hX:bl X bZ (j+1) _=b9
  have b1:∀e,e≠j+1->Z X b9 e=Z X bZ e:=λe B=>by rw[<-hX,aL Zo B]
  have nz:Z X b9 (j+1)=some (.cells (d3 (d3 (M.ofList [.Z 1, .str w, .Z 0, .int .u64 0, .zF, .zF, .Z 0] 0 .nil) 0 [.Z 3]) 4 [.bool t.b, .bool t.s, .Z t.w]) 7 .own):=by rw[<-hX,bn Zo];rfl
  rw[<-b1 _ Zo]at dU
  have eY:bp X h j b9 (bE+1+5):=⟨zE dC.le,λe B=>by rw[b1 e Zo];exact dC.ad e B⟩
  clear hX b1 hf
  have:=fin b9 (bE+1+5) 3 t _ Zo eY nz dU rfl rfl rfl rfl rfl rfl rfl
  simp only[ZE]
  refine hU ⟨?_⟩
  exact this
 |false=>
  have RT:t=dr:=by
   rw[<-a8]
   cases bG:k2 w with
   |none=>rfl
   |some t=>rw[bG]at sl;cases sl
  refine c7 ⟨?_⟩
  refine e8 (λbT=>bp X bf bE bT (bE+1)) dM ?_
  intro bT dA
  have xv:=sc.trans dA
  have dU:Z X bT j=zI [.Z 0, .str [], .Z 0, .int .u64 0, .zF, .zF, .Z 0] 7:=by rw[dA.ad _ Zo];exact cR
  have eu:Z X bT (j+1)=zI [.Z 1, .str w, .Z 0, .int .u64 0, .zF, .zF, .Z 0] 7:=by rw[dA.ad _ Zo];exact ep
  refine(at2 (j:=bE+1) (h:=bT) az.todW c2 w).Zm ?_
  rintro ab bZ ct ⟨rfl,rfl,rfl⟩
  subst RT
  simp only[Zv,ZD]
  by_cases na:w∈tS
  ·simp only[na,Yz,ZE]
   refine hU ⟨?_⟩
   refine hU ⟨?_⟩
   refine hU ⟨?_⟩
   refine gi (jJ (q:=1) (b:=j+1) (W:=0) (n:=7) eu Zo rfl Zd Zd rfl) ?_
   generalize hX:bl X _ (j+1) _=b9
   have b1:∀e,e≠j+1->Z X b9 e=Z X bZ e:=λe B=>by rw[<-hX,aL Zo B]
   have nz:Z X b9 (j+1)=some (.cells (d3 (M.ofList [.Z 1, .str w, .Z 0, .int .u64 0, .zF, .zF, .Z 0] 0 .nil) 0 [.Z 2]) 7 .own):=by rw[<-hX,bn Zo];rfl
   rw[<-b1 _ Zo]at dU
   have eY:bp X h j b9 (bE+1):=⟨xv.le,λe B=>by rw[b1 e Zo];exact xv.ad e B⟩
   have:=fin b9 (bE+1) 2 dr _ Zo eY nz dU rfl rfl rfl rfl rfl rfl rfl
   refine hU ⟨?_⟩
   exact this
  ·simp only[na,Yq,ZD]
   have:=fin bZ (bE+1) 1 dr _ Zo xv eu dU rfl rfl rfl rfl rfl rfl rfl
   refine hU ⟨?_⟩
   refine hU ⟨?_⟩
   refine hU ⟨?_⟩
   exact this
end
def Br(s:ba)(i:Nat):Option Tok:=
 let d:=(s.drop i).takeWhile iE
 if (kF d).2≠0\/20<d.length then none
 else
  let Tg:=(s.drop (i+d.length)).takeWhile iU
  if Tg=[]then some ⟨4,d,0,(kF d).1,dr⟩
  else match k2 Tg with
   |some t=>if !t.b&&uN t (kF d).1 then some ⟨5,d++Tg,0,(kF d).1,t⟩else none
   |none=>none
def TJ:∀{w:ba}{t:iO},k2 w=some t->kB t=true:=by
 intro w t a
 cases w with
 |nil=>cases a
 |cons c k=>
  by_cases al:c::k=[98,111,111,108]
  ·rw[NW,Zu al]at a
   cases a
   rfl
  ·obtain⟨_,n,H,K,_,rfl⟩:=GI a al
   simp[kB];omega
section
variable{X:cl}{h R aX aP:M ak}{j au aM be fW:Nat}{s:ba}{i:Nat}
def asI(az:f5 X)(bP:kl X)(V:m2 X h fW s i)(al:∀c∈s,c<256)(aI:(o X).aY<=j)(IN:fW<j):
 a1 X 32 [.ptr fW 0] h j (λab R au=>(∃q,ab= .tuple [.agg (b0 q), .bool (Br s i).isSome]/\∀x,Br s i=some x->q=x)/\bp X h j R au) (λ_ _ _=>False):=by
 refine zL az.todW (agj X) ?_
 rw[agk]
 unfold UH
 have dl:=V.dl
 have hB:=V.ch
 have jC:=V.le
 have ax6:=V.many
 obtain⟨cF,cH,d7⟩:=SF V al i iE (λc a=>by simp[iU,a])
 have oq:=El iE (s.drop i)
 rw[Ye]at oq
 have sq:∀cK,m2 X (bl X h j cK) fW s i:=λcK=>V.ad (aL aI Zo)
 refine ce @dl ⟨?_⟩
 refine(NH az.todW (aud az.todW) (sq _) V.le).Zm ?_
 rintro ab aP be ⟨rfl,rfl,rfl⟩
 generalize jd:Br s i=N
 unfold Br at jd
 simp only[]at jd
 generalize (s.drop i).takeWhile iE=d at*
 refine c7 ⟨?_⟩
 refine e8 (λaX=>Z X aX j=zI [.Z 0, .str [], .Z 0, .int .u64 0, .zF, .zF, .Z 0] 7/\bp X h j aX (j+1)) ⟨by simp(disch:=omega) only[aL,bn]<;>rfl,dM⟩ ?_
 rintro aX ⟨g1,bY⟩
 refine(atf az bP cF cH Zo).Zm ?_
 rintro ab bf bE ⟨⟨D,rfl,bt⟩,cq⟩
 have jE:=cq.le
 have sc:=bY.trans cq
 have cR:Z X bf j=zI [.Z 0, .str [], .Z 0, .int .u64 0, .zF, .zF, .Z 0] 7:=by rw[cq.ad _ Zo];exact g1
 have xP:=V.ad (sc.ad fW IN)
 have ayP:y.agg [.Z 0, .str [], .Z 0, .int .u64 0, .zF, .zF, .Z 0]= .agg (b0 gZ):=rfl
 rcases bt with ⟨bi,rfl⟩|⟨bi,b,rfl⟩
 ·by_cases eO:20<d.length
  ·rw[Zu (.inr eO)]at jd
   subst jd
   have cB:decide ((20:Int)<(d.length:Int))=true:=by simp only[Zi];omega
   refine dq @DU @cB ⟨?_⟩
   exact⟨⟨gZ,rfl,λx a=>by cases a⟩,bp.set sc Zo aI Zo⟩
  have cB:decide ((20:Int)<(d.length:Int))=false:=by simp only[Ze];omega
  rw[Zg (by rintro(a|a);exact a bi;exact eO a)]at jd
  have gD:=xP.dl
  have bB:bg .add (.Z (i:Int)) (.Z (d.length:Int))=some (.Z ((i+d.length:Nat):Int)):=by rw[eK Zo Zo];rfl
  refine g6 @DU @cB @gD @bB ⟨?_⟩
  refine(NH az.todW (adW az.todW) xP Zo).Zm ?_
  rintro ab bT b3 ⟨rfl,rfl,rfl⟩
  obtain⟨e3,g9,ws⟩:=SF xP al (i+d.length) iU (λ_ a=>a)
  generalize (s.drop (i+d.length)).takeWhile iU=w at*
  by_cases br:w=[]
  ·have cC:decide (w=[])=true:=by simp[br]
   rw[Zu br]at jd
   subst jd
   refine ce @cC ⟨?_⟩
   exact⟨⟨⟨4,d,0,(kF d).1,dr⟩,rfl,λx a=>by cases a;rfl⟩,bp.set sc Zo aI Zo⟩
  have cC:decide (w=[])=false:=by simp[br]
  rw[Zg br]at jd
  refine ce @cC ⟨?_⟩
  refine(aeu az bP e3 g9 ws Zo).Zm ?_
  rintro ab bZ ct ⟨rfl,dC⟩
  have hQ:=dC.le
  have fw:Z X bZ j=zI [.Z 0, .str [], .Z 0, .int .u64 0, .zF, .zF, .Z 0] 7:=by rw[dC.ad _ Zo];exact cR
  have CU:=sc.trans dC
  generalize a8:(k2 w).getD dr=t
  have Dw:k0 t=[.bool t.b, .bool t.s, .Z t.w]:=rfl
  rw[Dw]
  refine hU ⟨?_⟩
  refine hU ⟨?_⟩
  refine hU ⟨?_⟩
  refine hU ⟨?_⟩
  refine hU ⟨?_⟩
  generalize hX:bl X _ ct _=b9
  have dU:Z X b9 ct=zI [.bool t.b, .bool t.s, .Z t.w] 3:=by rw[<-hX,bn Zo];rfl
  have eu:Z X b9 j=zI [.Z 0, .str [], .Z 0, .int .u64 0, .zF, .zF, .Z 0] 7:=by rw[<-hX];simp(disch:=omega) only[aL];exact fw
  have eY:bp X h j b9 (ct+1):=CU.trans (by rw[<-hX];exact dM)
  clear hX fw cR g1
  have qX:∀h,dD X h .add 9 false (.str d) (.str w)=some (.str (d++w)):=λh=>by
   have:Nat.ble (d.length+w.length) 1000000000=true:=jP Zo
   simp only[dD,wZ,this,eW]
  have Ts:∀ah:Prop,ah->io (.str (d++w)) (some (.str (d++w))) ah:=λah a=>j0 (by simp[y.same,DT]) a
  have JS:∀ah:Prop,ah->io (.agg [.bool t.b, .bool t.s, .Z t.w]) (some (.agg [.bool t.b, .bool t.s, .Z t.w])) ah:=λah a=>j0 (by simp[y.same,qE,ry]) a
  have d2:b0 ⟨5,d++w,0,(kF d).1,t⟩=[.Z 5, .str (d++w), .Z 0, .int .u64 (kF d).1, .bool t.b, .bool t.s, .Z t.w]:=rfl
  cases sl:k2 w with
  |none=>
   rw[sl]at jd
   simp only[]at jd
   subst jd
   simp only[Z4]
   refine dq @qX (bU dU) ⟨?_⟩
   refine Ts _ ?_
   refine dq @qX (bU dU) ⟨?_⟩
   refine JS _ ?_
   refine c7 ⟨?_⟩
   refine⟨⟨⟨5,d++w,0,(kF d).1,t⟩, ?_,λx a=>by cases a⟩,bp.set eY Zo aI Zo⟩
   rw[d2]
  |some ga=>
   have apS:ga=t:=by rw[sl]at a8;exact a8
   subst apS
   have aoE:=TJ sl
   rw[sl]at jd
   simp only[]at jd
   cases mK:ga.b with
   |true=>
    rw[mK]at jd dU d2 JS
    simp only[Yt,Bool.false_and,Zv,ZD]at jd
    subst jd
    simp only[Z4,Z8]
    refine dq @qX (bU dU) ⟨?_⟩
    refine Ts _ ?_
    refine dq @qX (bU dU) ⟨?_⟩
    refine JS _ ?_
    refine c7 ⟨?_⟩
    refine⟨⟨⟨5,d++w,0,(kF d).1,ga⟩, ?_,λx a=>by cases a⟩,bp.set eY Zo aI Zo⟩
    rw[d2]
   |false=>
    rw[mK]at jd dU d2 JS
    simp only[Ys,zA]at jd
    simp only[Z8]
    refine dq @qX (bU dU) ⟨?_⟩
    have aA:=aoX (j:=ct+1+19) (h:=b9) az.todW ga aoE ((kF d).1:Int) Zo
    have apP:k0 ga=[.zF, .bool ga.s, .Z ga.w]:=by unfold k0;rw[mK]
    rw[apP]at aA
    refine aA.Zm ?_
    rintro ab cm en ⟨rfl,e6⟩
    have re:=e6.le
    have hf:Z X cm ct=zI [.zF, .bool ga.s, .Z ga.w] 3:=by rw[e6.ad _ Zo];exact dU
    have nz:Z X cm j=zI [.Z 0, .str [], .Z 0, .int .u64 0, .zF, .zF, .Z 0] 7:=by rw[e6.ad _ Zo];exact eu
    have amQ:bp X h j cm en:=⟨zE eY.le,λe B=>by rw[e6.ad e (zE eY.le)];exact eY.ad e B⟩
    have am3:N.isSome=uN ga ((kF d).1:Int):=by
     rw[<-jd];cases uN ga ((kF d).1:Int)<;>rfl
    rw[am3]
    refine ce @qX ⟨?_⟩
    refine Ts _ ?_
    refine ce (bU hf) ⟨?_⟩
    refine JS _ ?_
    refine c7 ⟨?_⟩
    refine⟨⟨⟨5,d++w,0,(kF d).1,ga⟩, ?_,λx a=> ?_⟩,bp.set amQ Zo aI Zo⟩
    ·rw[d2]
    ·rw[<-jd]at a
     split at a
     ·cases a;rfl
     ·cases a
 ·rw[Zu (.inl bi)]at jd
  subst jd
  refine ce @acO ⟨?_⟩
  exact⟨⟨gZ,rfl,λx a=>by cases a⟩,bp.set sc Zo aI Zo⟩
end
def yo:List ba:=[[45,62],[60,60],[62,62],[60,61],[62,61],[60,62],[40],[41],[44],[59],[58],[61],[60],[62],[43],[45],[42]]
structure Oy(X:cl):Prop where
 at_:∀h,dT X h 17 (.ptr 1 0)=some (.agg (yo.map y.str))
def Ii(s p:ba):Bool:=decide (p.length<=s.length/\s.take p.length=p)
def tX(s:ba)(i:Nat):Option ba:=yo.find? (Ii (s.drop i))
def BQ(p:ba):Tok:=⟨6,p,0,0,dr⟩
def Xr{α:Type}(p:α->Bool):∀(k:List α) (Y:Nat),(∀q<Y,∀x,k[q]? =some x->p x=false)->k.find? p=(k.drop Y).find? p:=by
 intro k Y
 induction Y with
 |zero=>intro _;rfl
 |succ Y aj=>
  intro a
  rw[aj λq aG=>a q Zo]
  by_cases bD:Y<k.length
  ·rw[ZA bD,zr]
   have:=a Y Zo k[Y] (Zf bD)
   rw[this]
  ·rw[ZR Zo,ZR Zo]
section
variable{X:cl}{h R aX aP:M ak}{j au aM be fW:Nat}{s:ba}{i:Nat}
def auL(az:f5 X)(c2:Oy X)(V:m2 X h fW s i)(aI:(o X).aY<=j)(IN:fW<j):
 a1 X 30 [.ptr fW 0] h j (λab R au=>ab= .tuple [.agg (b0 (match tX s i with|some p=>BQ p|none=>gZ)), .bool (tX s i).isSome]/\bp X h j R au) (λ_ _ _=>False):=by
 refine zL az.todW (age X) ?_
 rw[agf]
 unfold UF
 have hB:=V.ch
 have jF:mT (.str s) (some (.Z (i:Int))) none=some (.str (s.drop i)):=NK .i64 V.le
 have bw:=c2.at_
 refine ce @bw ⟨?_⟩
 have g1:Z X (bl X h j (zI [.Z 0, .str [], .Z 0, .int .u64 0, .zF, .zF, .Z 0] 7)) j=zI [.Z 0, .str [], .Z 0, .int .u64 0, .zF, .zF, .Z 0] 7:=bn aI
 have bY:bp X h j (bl X h j (zI [.Z 0, .str [], .Z 0, .int .u64 0, .zF, .zF, .Z 0] 7)) (j+1):=dM
 refine gK (λm I R aS=>∃(Y:Nat),I.g 0=some (.ptr fW 0)/\I.g 2=some (.ptr j 0)/\I.g 6=some (.agg (yo.map y.str))/\I.g 7=some (.Z (Y:Int))/\Y+m=17/\Z X R j=zI [.Z 0, .str [], .Z 0, .int .u64 0, .zF, .zF, .Z 0] 7/\bp X h j R aS/\j+1<=aS/\∀q<Y,∀x,yo[q]? =some x->Ii (s.drop i) x=false)
  17 ⟨0,bF,bF,bF,ho,Zo,g1,bY,Zj _,λq aG=>Zo⟩ ?_
 clear g1 bY
 rintro m I aP be ⟨Y,t0,eR,fN,fx,bD,b5,b6,lh,jV⟩
 have gn:=V.ad (b6.ad fW IN)
 have d9:=gn.d9
 have dl:=gn.dl
 cases m with
 |zero=>
  have d:decide ((Y:Int)<17)=false:=by simp only[Ze];omega
  have bW:tX s i=none:=by
   unfold tX
   rw[Xr _ _ Y jV,show yo.drop Y=[] from ZR (by show 17<=Y;omega)]
   rfl
  rw[bW]
  refine eP @fx @d @eR ⟨?_⟩
  exact⟨rfl,bp.set b6 Zo aI Zo⟩
 |succ m=>
  have d:decide ((Y:Int)<17)=true:=by simp only[Zi];omega
  have bB:=zJ Y
  obtain⟨p,ay⟩:∃p,yo[Y]? =some p:=⟨_,Zf (by show Y<17;omega)⟩
  have di:x1 false 17 1 (.agg (yo.map y.str)) (.Z (Y:Int))=some (.str p):=by
   have:Nat.blt Y 17=true:=by simp[Nat.blt];omega
   simp only[x1,sy,this,eW,kp,rs,Yp,Zy,ay];rfl
  refine fA @fx @fN @t0 @d @di @d9 (Za @dl @jF) ⟨?_⟩
  refine(adx az.todW (s.drop i) p).Zm ?_
  rintro ab bf bE ⟨rfl,rfl,rfl⟩
  have Dm:decide (p.length<=(s.drop i).length/\(s.drop i).take p.length=p)=Ii (s.drop i) p:=rfl
  rw[Dm]
  cases f8:Ii (s.drop i) p with
  |true=>
   have bW:tX s i=some p:=by
    unfold tX
    obtain⟨af,B⟩:=Zb.1 ay
    have aH:yo.drop Y=p::yo.drop (Y+1):=by rw[ZA af,B]
    rw[Xr _ _ Y jV,aH,zr,f8]
   rw[bW]
   refine ce @eR ⟨?_⟩
   exact⟨rfl,bp.set b6 Zo aI Zo⟩
  |false=>
   refine dq @fx @bB ⟨?_⟩
   refine⟨m,Zo,Y+1,bz t0,bz eR,bz fN,bF,Zo,b5,⟨Zo,b6.ad⟩,Zo,λq aG x af=> ?_⟩
   by_cases L7:q=Y
   ·subst L7;rw[ay]at af;cases af;exact f8
   ·exact jV q Zo x af
end
def sL(s:ba)(i:Nat):Option Tok:=match s[i]? with
 |none=>none
 |some c=>if iE c then Br s i else if qC c then(if (tK s i).2 then some (tK s i).1 else none)else(tX s i).map BQ
def lv(x:Tok)(i:Nat):Tok:=⟨x.kind,x.text,i,x.n,x.ty⟩
def pr(s:ba):Nat->List Tok->Nat->Option (Except Int (List Tok))
 |0,_,_=>none
 |n+1,aU,i=>if i<s.length then match sL s i with
   |none=>some (.error i)
   |some x=>pr s n (aU++[lv x i]) (n2 s s.length (i+x.text.length))
  else some (.ok (aU++[⟨7,[],i,0,dr⟩]))
def O7(s:ba):∀(n i:Nat),i<=n2 s n i:=by
 intro n
 induction n with
 |zero=>intro i;exact Zj _
 |succ n aj=>
  intro i
  rw[n2]
  split
  ·exact Zj _
  ·split
   ·exact ZB Zo (aj (i+1))
   ·split
    ·exact ZB Zo (aj _)
    ·exact Zj _
def TI{s:ba}{i:Nat}{x:Tok}(a:sL s i=some x):1<=x.text.length/\i+x.text.length<=s.length:=by
 unfold sL at a
 cases aA:s[i]? with
 |none=>rw[aA]at a;cases a
 |some c=>
  rw[aA]at a
  simp only[]at a
  obtain⟨af,B⟩:=Zb.1 aA
  have aH:s.drop i=c::s.drop (i+1):=by rw[ZA af,B]
  have aB:(s.drop i).length=s.length-i:=Ye
  split at a
  ·rename_i pN
   have H:=El iE (s.drop i)
   have K:1<=((s.drop i).takeWhile iE).length:=by rw[aH,YJ,pN];simp
   unfold Br at a
   simp only[]at a
   generalize (s.drop i).takeWhile iE=d at*
   split at a
   ·cases a
   ·have am:=El iU (s.drop (i+d.length))
    rw[Ye]at am
    split at a
    ·cases a;exact⟨K,by show i+d.length<=_;omega⟩
    ·split at a
     ·split at a
      ·cases a
       refine⟨?_, ?_⟩
       ·show 1<=(d++_).length;rw[ZG];omega
       ·show i+(d++_).length<=_;rw[ZG];omega
      ·cases a
     ·cases a
  ·split at a
   ·rename_i xB
    have H:=El iU (s.drop i)
    have K:1<=((s.drop i).takeWhile iU).length:=by rw[aH,YJ,show iU c=true from by simp[iU,xB]];simp
    split at a
    ·cases a
     exact⟨K,by show i+((s.drop i).takeWhile iU).length<=_;omega⟩
    ·cases a
   ·simp only[Yk]at a
    obtain⟨p,H,rfl⟩:=a
    have K:=List.find?_some H
    have am:=List.mem_of_find?_eq_some H
    simp[Ii]at K
    refine⟨?_, ?_⟩
    ·show 1<=p.length
     revert am
     clear H K
     revert p
     decide
    ·show i+p.length<=_;omega
def et.narrow{C:aT}{h:M ak}{P:Nat->Prop}{b aN:Nat}{a2:y}{aK:List (List y)}(a:et C h P b a2 aN aK):et C h (λe=>e=b) b a2 aN aK:=⟨λ_=>rfl,a.many,a.wide,a.len,a.g2,a.cell⟩
section
variable{X:cl}{h R aX aP:M ak}{j au aM be fW:Nat}{s:ba}{i:Nat}
structure qa(X:cl):Prop where
 err:kl X
 res:Kq X
 sig:Oy X
def VR(X:cl)(j:Nat)(r:Except Int (List Tok))(ab:y)(R:M ak)(au:Nat):Prop:=match r with
 | .error E=>ab= .tuple [.aW, .agg [.Z 20, .Z E]]
 | .ok aU=>∃ao bJ,ab= .tuple [ao, .agg [.Z 0, .Z 0]]/\et X R (λe=>e=bJ) bJ ao 7 (aU.map b0)/\j<=bJ/\bJ<au
def aiN(az:f5 X)(c2:qa X)(aE:s.length<=65536)(al:∀c∈s,c<256)(aI:(o X).aY<=j){a0:y}(aB:fM a0=some (.Z (s.length:Int)))(pL:∀R aS,bp X h j R aS->s9 X R a0=some (.str s))
 {r:Except Int (List Tok)}(V:pr s (s.length+1) [] (n2 s s.length 0)=some r):
 a1 X 17 [a0] h j (λab R au=>VR X j r ab R au/\bp X h j R au) (λ_ _ _=>False):=by
 refine zL az.todW (af0 X) ?_
 rw[af1]
 unfold Ux
 have kq:decide ((65536:Int)<(s.length:Int))=false:=by simp only[Ze];omega
 have xD:=pL (bl X h j (zI [.Z 0, .Z 0] [y.Z 0, .Z 0].length)) (j+1) dM
 refine dq @aB @kq ⟨?_⟩
 refine gi xD ?_
 refine c7 ⟨?_⟩
 refine e8 (λaX=>Z X aX j=zI [.Z 0, .Z 0] 2/\Z X aX (j+1)=zI [.str s, .Z ((0:Nat):Int)] 2/\bp X h j aX (j+1+1)) ⟨by simp(disch:=omega) only[aL,bn]<;>rfl,by rw[bn Zo];rfl,dM⟩ ?_
 rintro aX ⟨g1,b5,bY⟩
 have sq:m2 X aX (j+1) s 0:=⟨b5,Zo,aE,Zo⟩
 refine(Wr az sq al Zo Zo).Zm ?_
 rintro ab aP be ⟨gn,dt⟩
 have f1:=dt.le
 have cR:Z X aP j=zI [.Z 0, .Z 0] 2:=by rw[dt.ad _ Zo Zs];exact g1
 have b6:bp X h j aP be:=⟨Zo,λe B=>by rw[dt.ad e Zo Zx];exact bY.ad e B⟩
 refine gT ?_
 refine gK (λm I R aS=>∃(a2:y) (aU:List Tok) (cy:List Nat) (Y:Nat),I.g 3=some (.ptr j 0)/\I.g 4=some (.ptr (j+1) 0)/\I.g 5=some a2/\Z X R j=zI [.Z 0, .Z 0] 2/\m2 X R (j+1) s Y/\gu X R a2 7 (aU.map b0).flatten cy/\(∀e∈cy,j+2<=e/\e<aS)/\bp X h j R aS/\j+2<=aS/\aU.length<=Y/\pr s m aU Y=some r)
  (s.length+1) ⟨.aW,[],[],_,bF,bF,bF,cR,gn, .inl (.inl ⟨rfl,rfl,rfl⟩),Zs,b6,Zo,Zs,V⟩ ?_
 clear V g1 b5 cR sq gn bY b6 dt f1 xD
 rintro m I aP be ⟨a2,aU,cy,Y,t3,t4,t5,b5,gn,uS,m6,b6,lh,ax8,V⟩
 have d9:=gn.d9
 have dl:=gn.dl
 have m8:=gn.le
 cases m with
 |zero=>cases V
 |succ m=>
 rw[pr]at V
 have aaK:∀r∈aU.map b0,r.length=7:=λr a=>by obtain⟨x,_,rfl⟩:=ZC.1 a;rfl
 have oV:=mf aaK
 rw[Zp]at oV
 have V9:∀(bf:M ak) (bE b:Nat) (x:Tok),(∀e∈cy,Z X bf e=Z X aP e)->be<=bE->Z X bf b=zI (b0 x) 7->
  ∃po bT hS,ju X bf bE 7 a2 (.slice b 0 1 1)=some (.fq po bT (bE+1))/\ib X bT po 7 ((aU++[x]).map b0).flatten hS/\(∀e∈hS,e=bE\/e∈cy)/\∀e,e≠bE->e∉cy->Z X bT e=Z X bf e:=by
  intro bf bE b x aG rf anm
  have h7:hI X bf 7 (.slice b 0 1 1)=some (1,b0 x):=pp anm (lk _) rfl _
  obtain⟨po,bT,hS,H,K,am,aC⟩:=(uS.ad aG).append (j:=bE) Zd h7 rfl Zd rfl (by rw[oV,show(b0 x).length=7 from rfl];omega) Zo (λe B=>zE (m6 e B))
  refine⟨po,bT,hS,H, ?_,am,aC⟩
  rw[Yu,YI,ZJ,List.map_nil,ZL,List.flatten_nil,Yn]
  exact K
 by_cases bD:Y<s.length
 ·have cB:=zG Y s.length
  rw[Zu bD]at V
  obtain⟨c,aA⟩:∃c,s[Y]? =some c:=⟨_,Zf bD⟩
  have di:=A1 .i64 aA
  have LS:=al c (Zh aA)
  refine gG @t4 @d9 (Za @dl (Za @cB @di)) ⟨?_⟩
  refine gT ?_
  refine gG @t4 @d9 (Za @dl (Za @cB @di)) ⟨?_⟩
  refine gT ?_
  refine gG @t4 @d9 (Za @dl (Za @cB @di)) ⟨?_⟩
  have rd:∀(q:Nat),(iE c=true->q=32)->(iE c=false->qC c=true->q=34)->(iE c=false->qC c=false->q=30)->∀Nf,be<=Nf->
   a1 X q [.ptr (j+1) 0] aP Nf (λab R aS=>(∃x,ab= .tuple [.agg (b0 x), .bool (sL s Y).isSome]/\∀e,sL s Y=some e->x=e)/\bp X aP Nf R aS) (λ_ _ _=>False):=by
   intro q bS ck cM Nf axT
   unfold sL
   rw[aA]
   simp only[]
   cases pN:iE c with
   |true=>
    rw[bS pN]
    simp only[ZE]
    exact asI az c2.err gn al Zo Zo
   |false=>
    simp only[Zv,ZD]
    cases xB:qC c with
    |true=>
     rw[ck pN xB]
     simp only[ZE]
     refine(awq az c2.err c2.res gn al Zo Zo).Zm ?_
     rintro ab R aS ⟨rfl,bP⟩
     refine⟨⟨(tK s Y).1, ?_,λe a=> ?_⟩,bP⟩
     ·cases(tK s Y).2<;>rfl
     ·split at a
      ·cases a;rfl
      ·cases a
    |false=>
     rw[cM pN xB]
     simp only[Zv,ZD]
     refine(auL az c2.sig gn Zo Zo).Zm ?_
     rintro ab R aS ⟨rfl,bP⟩
     refine⟨⟨(match tX s Y with|some p=>BQ p|none=>gZ), ?_,λe a=> ?_⟩,bP⟩
     ·cases tX s Y<;>rfl
     ·cases bG:tX s Y with
      |none=>rw[bG]at a;cases a
      |some p=>rw[bG]at a;cases a;rfl
  refine kx (λcP R aS=>∃q,cP.g 3=some (.ptr j 0)/\cP.g 4=some (.ptr (j+1) 0)/\cP.g 5=some a2/\cP.g 6=some (.func (.func q) [.ptr (j+1) 0] [])/\R=aP/\be<=aS/\(iE c=true->q=32)/\(iE c=false->qC c=true->q=34)/\(iE c=false->qC c=false->q=30)) (λaym Rh=> ?_) ?_
  ·refine(PA az.todW c).Zm ?_
   rintro ab bf bE ⟨rfl,rfl,rfl⟩
   cases pN:iE c with
   |true=>
    refine ce @t4 ⟨?_⟩
    exact Rh _ _ _ ⟨32,bz t3,bz t4,bz t5,bF,rfl,Zo,λ_=>rfl,(λa=>absurd a (by simp[pN])),(λa=>absurd a (by simp[pN]))⟩
   |false=>
    refine ce @t4 ⟨?_⟩
    refine(Wo az.todW c).Zm ?_
    rintro ab bf bE ⟨rfl,rfl,rfl⟩
    cases xB:qC c with
    |true=>
     refine ce @t4 ⟨?_⟩
     exact Rh _ _ _ ⟨34,bz t3,bz t4,bz t5,bF,rfl,Zo,(λa=>absurd a (by simp[pN])),λ_ _=>rfl,(λ_ a=>absurd a (by simp[xB]))⟩
    |false=>
     refine ce @t4 ⟨?_⟩
     exact Rh _ _ _ ⟨30,bz t3,bz t4,bz t5,bF,rfl,Zo,(λa=>absurd a (by simp[pN])),(λ_ a=>absurd a (by simp[xB])),λ_ _=>rfl⟩
  clear t3 t4 t5
  rintro awG bf bE ⟨q,t3,t4,t5,fN,rfl,rf,bS,ck,cM⟩
  refine ce @fN ⟨?_⟩
  refine(rd q bS ck cM _ rf).Zm ?_
  clear rd bS ck cM fN
  rintro ab bT b3 ⟨⟨x,rfl,af⟩,dA⟩
  have je:=dA.le
  have ep:Z X bT j=zI [.Z 0, .Z 0] 2:=by rw[dA.ad _ Zo];exact b5
  have FJ:=gn.ad (dA.ad (j+1) Zo)
  have Ff:bp X h j bT b3:=b6.trans ⟨Zo,λe B=>dA.ad e Zo⟩
  have apT:b0 x=[.Z x.kind, .str x.text, .Z x.at_, .int .u64 x.n, .bool x.ty.b, .bool x.ty.s, .Z x.ty.w]:=rfl
  rw[apT]
  refine hU ⟨?_⟩
  refine hU ⟨?_⟩
  refine hU ⟨?_⟩
  refine hU ⟨?_⟩
  refine hU ⟨?_⟩
  generalize iS:bl X _ b3 _=bZ
  have bm:∀e,e<b3->Z X bZ e=Z X bT e:=λe B=>by rw[<-iS];exact zK
  have fw:Z X bZ b3=zI (b0 x) 7:=by rw[<-iS,bn Zo];rfl
  have dU:=ep
  rw[<-bm _ Zo]at dU
  have Dp:=FJ.ad (bm (j+1) Zo)
  have dC:bp X h j bZ (b3+1):=⟨Zo,λe B=>by rw[bm e Zo];exact Ff.ad e B⟩
  clear iS ep
  have ie:=Dp.dl
  cases AM:sL s Y with
  |none=>
   rw[AM]at V
   simp only[Zc]at V
   subst V
   simp only[Z4]
   refine eP @t4 @t3 @ie ⟨?_⟩
   exact⟨rfl,bp.set dC (Zj _) aI Zo⟩
  |some e=>
   have:=af e AM
   subst this
   rw[AM]at V
   simp only[]at V
   obtain⟨xX,RY⟩:=TI AM
   simp only[Z8]
   simp only[Yt]
   refine eP @t4 @t3 @ie ⟨?_⟩
   generalize hX:bl X bZ b3 _=b9
   have b1:∀e,e≠b3->Z X b9 e=Z X bZ e:=λe B=>by rw[<-hX,aL Zo B]
   have eu:Z X b9 b3=some (.cells (d3 (M.ofList (b0 x) 0 .nil) 2 [.Z (Y:Int)]) 7 .own):=by rw[<-hX,bn Zo];rfl
   have mI:=Dp.ad (b1 (j+1) Zo)
   have eY:bp X h j b9 (b3+1):=⟨Zo,λe B=>by rw[b1 e Zo];exact dC.ad e B⟩
   have hf:=dU
   rw[<-b1 _ Zo]at hf
   have dS:∀e∈cy,Z X b9 e=Z X bf e:=λe B=>by have:=m6 e B;rw[b1 e Zo,bm e Zo,dA.ad e Zo]
   clear hX fw dU Dp dC ie b1 bm FJ Ff
   have dv:aV X b9 (.ptr b3 1)=some (.str x.text):=by rw[bU eu];rfl
   have bB:bg .add (.Z (Y:Int)) (.Z (x.text.length:Int))=some (.Z ((Y+x.text.length:Nat):Int)):=by rw[eK Zo Zo];rfl
   refine tf @dv ⟨?_⟩
   refine hU ⟨?_⟩
   refine tf @bB ⟨?_⟩
   refine hU ⟨?_⟩
   refine hU ⟨?_⟩
   refine gi (jJ (q:=1) (b:=j+1) (W:=1) (n:=2) mI.g Zo rfl Zd Zd rfl) ?_
   generalize mg:bl X b9 (j+1) _=cm
   have df:∀e,e≠j+1->Z X cm e=Z X b9 e:=λe B=>by rw[<-mg,aL Zo B]
   have FK:m2 X cm (j+1) s (Y+x.text.length):=⟨by rw[<-mg,bn Zo];rfl,RY,aE,Zo⟩
   have e6:bp X h j cm (b3+1):=⟨Zo,λe B=>by rw[df e Zo];exact eY.ad e B⟩
   rw[<-df _ Zo]at eu hf
   have e1:∀e∈cy,Z X cm e=Z X bf e:=λe B=>by have:=m6 e B;rw[df e Zo];exact dS e B
   clear mg df mI eY dS dv
   have fb:aV X cm (.ptr b3 0)=some (.Z x.kind):=by rw[bU eu];rfl
   have dv:aV X cm (.ptr b3 1)=some (.str x.text):=by rw[bU eu];rfl
   have cD:aV X cm (.ptr b3 2)=some (.Z (Y:Int)):=by rw[bU eu];rfl
   have ec:aV X cm (.ptr b3 3)=some (.int .u64 x.n):=by rw[bU eu];rfl
   have fl:aV X cm (.ptr b3 4)=some (.bool x.ty.b):=by rw[bU eu];rfl
   have fG:aV X cm (.ptr b3 5)=some (.bool x.ty.s):=by rw[bU eu];rfl
   have kz:aV X cm (.ptr b3 6)=some (.Z x.ty.w):=by rw[bU eu];rfl
   refine fA @fb @dv @cD @ec @fl @fG (Za @kz @t5) ⟨?_⟩
   obtain⟨po,dk,hS,ii,RR,Ik,Da⟩:=V9 (bl X cm (b3+1+11) (zI (b0 (lv x Y)) 7)) (b3+1+11+1) (b3+1+11) (lv x Y) (λe B=>by have:=m6 e B;rw[aL Zo Zo];exact e1 e B) Zo (bn Zo)
   refine kh ii ?_
   have dh:∀e,e<j+2->e∉cy:=λe H K=>zE (m6 e K)
   have fS:∀e,e<j+2->Z X dk e=Z X cm e:=λe B=>by rw[Da e Zo (dh e B),aL Zo Zo]
   have RI:=FK.ad (fS (j+1) Zo)
   rw[<-fS _ Zo]at hf
   have kt:bp X h j dk (b3+1+11+1+1):=⟨Zo,λe B=>by rw[fS e Zo];exact e6.ad e B⟩
   have pI:∀e∈hS,j+2<=e/\e<b3+1+11+1+1:=λe B=>by
    rcases Ik e B with rfl|a
    ·omega
    ·have:=m6 e a;omega
   refine ce @t4 ⟨?_⟩
   refine(Wr az RI al Zo Zo).Zm ?_
   rintro ab d8 kd ⟨ob,hO⟩
   have uH:=hO.le
   refine⟨m,Zo,po,aU++[lv x Y],hS,_,bz t3,bz t4,bF,by rw[hO.ad _ Zo Zs];exact hf,ob, .inl (RR.ad λe B=>hO.ad e (pI e B).2 (by have:=pI e B;simp;omega)),λe B=>zE (pI e B),⟨Zo,λe B=>by rw[hO.ad e Zo Zx];exact kt.ad e B⟩,Zo, ?_,V⟩
   have:=O7 s s.length (Y+x.text.length)
   simp only[ZG,Zz,ZY]
   omega
 ·have cB:=zF Y s.length
  rw[Zg bD]at V
  cases V
  refine g0 @t4 @d9 @dl @cB @t5 ⟨?_⟩
  obtain⟨po,bT,hS,ii,pS,mh,gg⟩:=V9 (bl X aP (be+10) (zI (b0 ⟨7,[],Y,0,dr⟩) 7)) (be+10+1) (be+10) ⟨7,[],Y,0,dr⟩ (λe B=>aL Zo (zE (m6 e B))) Zo (bn Zo)
  refine kh ii ?_
  have dh:∀e,e<j+2->e∉cy:=λe H K=>zE (m6 e K)
  have ep:Z X bT j=zI [.Z 0, .Z 0] 2:=by rw[gg _ Zo (dh _ Zo),aL Zo Zo];exact b5
  have dA:bp X h j bT (be+10+1+1):=⟨Zo,λe B=>by rw[gg _ Zo (dh _ Zo),aL Zo Zo];exact b6.ad e B⟩
  clear ii gg
  refine ce @t3 ⟨?_⟩
  have aop:∀r∈(aU++[(⟨7,[],Y,0,dr⟩:Tok)]).map b0,r.length=7:=λr a=>by obtain⟨x,_,rfl⟩:=ZC.1 a;rfl
  generalize iS:bl X bT j _=bZ
  have bm:∀e,e≠j->Z X bZ e=Z X bT e:=λe B=>by rw[<-iS,aL Zo B]
  have ξ:∀e∈hS,j+2<=e/\e<be+10+1+1:=λe B=>by
   rcases mh e B with rfl|a
   ·omega
   ·have:=m6 e a;omega
  obtain⟨bJ,c3⟩:=(pS.ad (R:=bZ) (λe B=>bm e (zE (ξ e B)))).wv Zd aop Zx (P:=λe=>j<=e/\e<be+10+1+1) (λe B=>zE (ξ e B))
  have jy:=c3.al Zs
  exact⟨⟨po,bJ,rfl,et.narrow c3,jy.1,jy.2⟩,⟨Zo,λe B=>by rw[bm e Zo];exact dA.ad e B⟩⟩
end
end
end Go.Proofs.YtbbkkkpgjaopkaaGreatDoor

