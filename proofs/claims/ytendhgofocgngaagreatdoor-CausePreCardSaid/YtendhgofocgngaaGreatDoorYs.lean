/- Part of the proof of the last text; no conditions -/
import Derived.Test.YtendhgofocgngaaGreatDoorYq
import Derived.Test.YtendhgofocgngaaGreatDoorYr
set_option maxHeartbeats 8000000
set_option linter.all false
namespace Go.Proofs.YtendhgofocgngaaGreatDoor
open Go.bn Go.aT
noncomputable section
def ad6{x e:Int}(H: -9223372036854775808<=x*e)(K:x*e<9223372036854775808):bm .mul (.Z x) (.Z e)=some (.Z (x*e)):=by
 simp[bm,lv,lx,lo,kT,wrap64 H K]
def atQ{c:Nat}(a:c<256):bm .sub (.int .u8 (c:Int)) (.int .u8 48)=some (.int .u8 (((c+208)%256:Nat):Int)):=by
 have w:oK .u8 ((c:Int) -48)=(((c+208)%256:Nat):Int):=by
  show((c:Int) -48)%256=_
  omega
 simp only[bm,lv,lx,lo,ku,eU,kT,w,FT]
def azW(k:aW)(c:Nat):xf (k++[c])=xf k*10+(c-48):=by simp[xf,Y7]
section
variable{X:co}{h R aU aQ:S ai}{j ap aL bc fZ:Nat}{s:aW}{i:Nat}
def aho(s:aW)(ac:z):Prop:=∃aG B,ac= .tuple [.Z aG,B]/\VM B/\(s≠[]->s.length<19->(∀c∈s,iM c=true)->B= .nilIface/\aG=(xf s:Int))
def alM(az:jd X)(aD:s.length<=65536)(ah:∀c∈s,c<256)(yv:Cm s)(aM:(q X).bf<=j):
 ba X 126 [.str s] h j (λac R ap=>aho s ac/\bG X h j R ap) (λ_ _ _=>False):=by
 refine zJ az.todN (ahW X) ?_
 rw[ahX]
 unfold V6
 by_cases a8:s=[]
 ·subst a8
  have mZ:decide ((0:Int)<((0:Nat):Int))=false:=rfl
  refine cq @mZ ⟨?_⟩
  refine(aeb az aD ah yv aM).Zm ?_
  rintro ac br bL ⟨⟨aG,B,rfl,a7⟩,cz⟩
  refine cY ⟨?_⟩
  exact⟨⟨aG,B,rfl,a7,λa=>absurd rfl a⟩,cz⟩
 have nJ:0<s.length:=ZW.2 a8
 have mZ:decide ((0:Int)<(s.length:Int))=true:=by simp only[Zi];omega
 by_cases IQ:s.length<19
 ·have cI:decide ((s.length:Int)<19)=true:=by simp only[Zi];omega
  obtain⟨c,x9⟩:∃c,s[0]? =some c:=⟨_,Ze nJ⟩
  have dV:nQ (.str s) (.Z 0)=some (.int .u8 (c:Int)):=Bs (i:=0) .i64 x9
  have ax:=yv c (Zn x9)
  have bJ:decide ((c:Int)=43)=false:=by simp only[Zc];omega
  have b2:decide ((c:Int)=45)=false:=by simp only[Zc];omega
  refine ht @mZ @cI @dV @bJ @b2 ⟨?_⟩
  refine ο Zo ?_
  have Rq:Z X (bp X h j (some (.cells (S.ofList (s.map λn:Nat=>z.int .u8 (n:Int)) 0 .nil) s.length (.grow [])))) j=some (.cells (S.ofList (s.map λn:Nat=>z.int .u8 (n:Int)) 0 .nil) s.length (.grow [])):=bz aM
  have C3:bG X h j (bp X h j (some (.cells (S.ofList (s.map λn:Nat=>z.int .u8 (n:Int)) 0 .nil) s.length (.grow [])))) (j+1):=dS
  generalize bp X h j (some (.cells (S.ofList (s.map λn:Nat=>z.int .u8 (n:Int)) 0 .nil) s.length (.grow [])))=r4 at*
  refine cY ⟨?_⟩
  refine fP (λm I R aP=>∃(W n p:Nat),I.g 47=some (.el j 0 s.length 1)/\I.g 48=some (.Z (s.length:Int))/\I.g 49=some (.Z (W:Int))/\I.g 6=some (.Z (n:Int))/\I.g 5=some (.str s)/\W+m=s.length/\p*10^m<=10^18/\n<p/\R=r4/\j+1<=aP/\n=xf (s.take W))
   s.length ⟨0,0,1,bt,bt,gc,gc,bt,Zo,by rw[Nat.one_mul];exact Nat.pow_le_pow_right Zo Zo,Zo,rfl,Zo,rfl⟩ ?_
  rintro m I aQ bc ⟨W,n,p,Vr,Pg,rF,g9,t5,bx,u2,aBZ,rfl,lX,bo⟩
  have cu:bG X h j aQ bc:=⟨Zo,C3.ad⟩
  cases m with
  |zero=>
   have fG:=zD W s.length
   refine eD @rF @Pg @t5 @g9 @fG @dV @b2 ⟨?_⟩
   rw[ZH Zo]at bo
   exact⟨⟨_,_,rfl, .inl rfl,λ_ _ _=>⟨rfl,by rw[bo]⟩⟩,cu⟩
  |succ m=>
   have fG:=zE W s.length
   have bw:=zH W
   obtain⟨E,aB⟩:∃c,s[W]? =some c:=⟨_,Ze Zo⟩
   have aqm:=ah E (Zn aB)
   have Jk:iv 1 (.el j 0 s.length 1) (.Z (W:Int))=some (.ptr j W):=by rw[DK _ Zo];simp
   have yi:aV X aQ (.ptr j W)=some (.int .u8 (E:Int)):=by rw[bX Rq,mg];simp[aB]
   have b3:=atQ aqm
   generalize bF:(E+208)%256=w at b3
   by_cases hI:9<w
   ·have hP:decide ((9:Int)<(w:Int))=true:=by simp only[Zi];omega
    refine eD @rF @Pg @Vr @fG @Jk @yi (Za @b3 @hP) ⟨?_⟩
    refine⟨⟨_,_,rfl, .inr (.inr rfl),λ_ _ is=> ?_⟩,cu⟩
    have:=is E (Zn aB)
    simp[iM]at this
    omega
   ·have hP:decide ((9:Int)<(w:Int))=false:=by simp only[Zc];omega
    have Sj:48<=E/\E<=57/\w=E-48:=Zo
    have ec:p*10<=10^18:=by
     have:p*10^(m+1)=(p*10)*10^m:=by rw[Nat.pow_succ];rw[Nat.mul_assoc,zy (10^m) 10]
     rw[this]at u2
     exact Zy (zc _ (Nat.pos_of_ne_zero Zs)) u2
    have dq:p*10*10^m<=10^18:=by
     have:p*10^(m+1)=(p*10)*10^m:=by rw[Nat.pow_succ];rw[Nat.mul_assoc,zy (10^m) 10]
     rw[this]at u2;exact u2
    have gx:p*10<=1000000000000000000:=ec
    have er:bm .mul (.Z (n:Int)) (.Z 10)=some (.Z ((n*10:Nat):Int)):=by rw[ad6 Zo Zo];rfl
    have iJ:mw .i64 (.int .u8 (w:Int))=some (.Z (w:Int)):=QM Zo Zo
    have n9:bm .add (.Z ((n*10:Nat):Int)) (.Z (w:Int))=some (.Z ((n*10+w:Nat):Int)):=by rw[eG Zo Zo];rfl
    refine eD @rF @Pg @Vr @fG @Jk @yi (Za @b3 (Za @hP (Za @g9 (Za @er (Za @iJ (Za @n9 @bw)))))) ⟨?_⟩
    refine⟨m,Zo,W+1,n*10+w,p*10,a6 Vr,a6 Pg,bt,bt,a6 t5,Zo,dq,Zo,rfl,Zo, ?_⟩
    rw[Z3,aB]
    show _=xf (s.take W++[E])
    rw[azW, <-bo,Sj.2.2]
 ·have cI:decide ((s.length:Int)<19)=false:=by simp only[Zc];omega
  refine dd @mZ @cI ⟨?_⟩
  refine(aeb az aD ah yv aM).Zm ?_
  rintro ac br bL ⟨⟨aG,B,rfl,a7⟩,cz⟩
  refine cY ⟨?_⟩
  exact⟨⟨aG,B,rfl,a7,λ_ a=>absurd a IQ⟩,cz⟩
def ahp(s:aW)(ac:z):Prop:=∃aG B,ac= .tuple [.Z aG,B]/\(B= .nilIface\/∃b,B= .iface 187 (.ptr b 0))/\(s≠[]->s.length<19->(∀c∈s,iM c=true)->B= .nilIface/\aG=(xf s:Int))
def X9(az:jd X)(cd:mo X)(aD:s.length<=65536)(ah:∀c∈s,c<256)(yv:Cm s)(aM:(q X).bf<=j):
 ba X 93 [.str s] h j (λac R ap=>ahp s ac/\bG X h j R ap) (λ_ _ _=>False):=by
 refine zJ az.todN (akA X) ?_
 rw[akB]
 unfold Xu
 refine(alM az aD ah yv aM).Zm ?_
 rintro ac br bL ⟨⟨aG,B,rfl,a7,af⟩,cz⟩
 have jo:=cz.le
 rcases a7 with rfl|rfl|rfl
 ·refine cq @D9 ⟨?_⟩
  exact⟨⟨_,_,rfl, .inl rfl,af⟩,cz⟩
 ·refine cq @Hb ⟨?_⟩
  refine(Mr (j:=bL) (h:=br) az cd [65,116,111,105] (.Z 0) (.Z 0) aD ah (Zy aM jo) (o:=1) Zd).Zm ?_
  rintro ac b0 cU ⟨⟨b,rfl⟩,dz⟩
  refine cY ⟨?_⟩
  exact⟨⟨_,_,rfl, .inr ⟨b,rfl⟩,λH K ak=>absurd (af H K ak).1 Zs⟩,cz.trans dz⟩
 ·refine cq @Hb ⟨?_⟩
  refine(Mr (j:=bL) (h:=br) az cd [65,116,111,105] (.Z 0) (.Z 0) aD ah (Zy aM jo) (o:=2) Zd).Zm ?_
  rintro ac b0 cU ⟨⟨b,rfl⟩,dz⟩
  refine cY ⟨?_⟩
  exact⟨⟨_,_,rfl, .inr ⟨b,rfl⟩,λH K ak=>absurd (af H K ak).1 Zs⟩,cz.trans dz⟩
end
def kW(t:ig):Bool:=if t.b then !t.s&&decide (t.w=1)else decide (1<=t.w)&&decide (t.w<=64)
def jB(n:Nat):aW:=if n<10 then[48+n]else[48+n/10,48+n%10]
def nh(t:ig):aW:=if kW t then(if t.b then[98,111,111,108]else(if t.s then 105 else 117)::jB t.w.toNat)else[]
def lk:aW->Option ig
 |[]=>none
 |c::k=>if c::k=[98,111,111,108]then some ⟨true,false,1⟩
  else if c=105\/c=117 then((List.range 65).find? λn=>decide (1<=n)&&decide (jB n=k)).map λn:Nat=>⟨false,decide (c=105),(n:Int)⟩
  else none
section
variable{X:co}{h R aU aQ:S ai}{j ap aL bc fZ:Nat}{s:aW}{i:Nat}
def D3(az:dN X)(t:ig)(aM:(q X).bf<=j):ba X 94 [.agg (lC t)] h j (λac R ap=>ac= .bool (kW t)/\bG X h j R ap) (λ_ _ _=>False):=by
 refine zJ az (akC X) ?_
 rw[akD]
 unfold Xv lC
 obtain⟨b,s,w⟩:=t
 cases b<;>cases s
 all_goals
  by_cases H:1<=w
  ·have cI:decide ((1:Int)<=w)=true:=by simp[H]
   refine cq @cI ⟨?_⟩
   exact⟨by simp[kW,H],dS⟩
  ·have cI:decide ((1:Int)<=w)=false:=by simp[H]
   refine cq @cI ⟨?_⟩
   exact⟨by simp[kW,H],dS⟩
def ayH:∀n<10,([48,49,50,51,52,53,54,55,56,57,97,98,99,100,101,102,103,104,105,106,107,108,109,110,111,112,113,114,115,116,117,118,119,120,121,122].drop n).take (n+1-n)=jB n:=by decide+kernel
def Pd:aW:=[48,48,48,49,48,50,48,51,48,52,48,53,48,54,48,55,48,56,48,57,49,48,49,49,49,50,49,51,49,52,49,53,49,54,49,55,49,56,49,57,50,48,50,49,50,50,50,51,50,52,50,53,50,54,50,55,50,56,50,57,51,48,51,49,51,50,51,51,51,52,51,53,51,54,51,55,51,56,51,57,52,48,52,49,52,50,52,51,52,52,52,53,52,54,52,55,52,56,52,57,53,48,53,49,53,50,53,51,53,52,53,53,53,54,53,55,53,56,53,57,54,48,54,49,54,50,54,51,54,52,54,53,54,54,54,55,54,56,54,57,55,48,55,49,55,50,55,51,55,52,55,53,55,54,55,55,55,56,55,57,56,48,56,49,56,50,56,51,56,52,56,53,56,54,56,55,56,56,56,57,57,48,57,49,57,50,57,51,57,52,57,53,57,54,57,55,57,56,57,57]
def ayJ:Pd.length=200:=by decide+kernel
def ayI:∀n<100,10<=n->(Pd.drop (n*2)).take (n*2+2-n*2)=jB n:=by decide+kernel
def N5(az:dN X){n:Nat}(aM:n<100):ba X 127 [.Z (n:Int)] h j (λac R ap=>ac= .str (jB n)/\R=h/\ap=j) (λ_ _ _=>False):=by
 refine zJ az (ahY X) ?_
 rw[ahZ]
 unfold V7
 refine zJ az (aig X) ?_
 rw[aih]
 unfold Wg
 refine zJ az (aio X) ?_
 rw[aip]
 unfold Wk
 have mZ:decide ((0:Int)<=(n:Int))=true:=by simp only[Zi];omega
 have cI:decide ((n:Int)<100)=true:=by simp only[Zi];omega
 refine dd @mZ @cI ⟨?_⟩
 refine zJ az (aiu X) ?_
 rw[aiv]
 unfold Wn
 by_cases a:n<10
 ·have cE:decide ((n:Int)<10)=true:=by simp only[Zi];omega
  have bw:=zH n
  have b3:mQ (.str [48,49,50,51,52,53,54,55,56,57,97,98,99,100,101,102,103,104,105,106,107,108,109,110,111,112,113,114,115,116,117,118,119,120,121,122]) (some (.Z (n:Int))) (some (.Z ((n+1:Nat):Int)))=some (.str (jB n)):=by
   rw[U7 .i64 .i64 Zo (by simp;omega),ayH n a]
  refine ey @cE @bw @b3 ⟨?_⟩
  exact⟨rfl,rfl,rfl⟩
 ·have cE:decide ((n:Int)<10)=false:=by simp only[Zc];omega
  have bw:bm .mul (.Z (n:Int)) (.Z 2)=some (.Z ((n*2:Nat):Int)):=by rw[ad6 Zo Zo];rfl
  have b3:bm .add (.Z ((n*2:Nat):Int)) (.Z 2)=some (.Z ((n*2+2:Nat):Int)):=by rw[eG Zo Zo];rfl
  have er:mQ (.str Pd) (some (.Z ((n*2:Nat):Int))) (some (.Z ((n*2+2:Nat):Int)))=some (.str (jB n)):=by
   rw[U7 .i64 .i64 Zo (zC ayJ),ayI n aM Zo]
  unfold Pd at er
  refine hm @cE @bw @b3 @er ⟨?_⟩
  exact⟨rfl,rfl,rfl⟩
def ayc(az:dN X)(t:ig)(aM:(q X).bf<=j):ba X 95 [.agg (lC t)] h j (λac R ap=>ac= .str (nh t)/\bG X h j R ap) (λ_ _ _=>False):=by
 refine zJ az (akE X) ?_
 rw[akF]
 unfold Xw
 have bh:lC t=[.bool t.b, .bool t.s, .Z t.w]:=rfl
 rw[bh]
 refine cY ⟨?_⟩
 refine ff (λaU=>Z X aU j=zG [.bool t.b, .bool t.s, .Z t.w] 3/\bG X h j aU (j+1)) ⟨bz aM,dS⟩ ?_
 rintro aU ⟨b4,cb⟩
 refine(D3 az t Zo).Zm ?_
 rintro ac aQ bc ⟨rfl,cu⟩
 have gE:=cu.le
 have cd:=cb.trans cu
 have b1:Z X aQ j=zG [.bool t.b, .bool t.s, .Z t.w] 3:=by rw[cu.ad _ Zo];exact b4
 have dE:aV X aQ (.ptr j 0)=some (.bool t.b):=by rw[bX b1];rfl
 have dF:aV X aQ (.ptr j 1)=some (.bool t.s):=by rw[bX b1];rfl
 have dR:aV X aQ (.ptr j 2)=some (.Z t.w):=by rw[bX b1];rfl
 cases aZ:kW t with
 |false=>
  refine cY ⟨?_⟩
  exact⟨by simp[nh,aZ],cd⟩
 |true=>
  cases j4:t.b with
  |true=>
   rw[j4]at dE
   refine cq @dE ⟨?_⟩
   exact⟨by simp[nh,aZ,j4],cd⟩
  |false=>
   rw[j4]at dE
   have bF:1<=t.w/\t.w<=64:=by simpa[kW,j4]using aZ
   obtain⟨w,yA⟩:=Yd (by omega:0<=t.w)
   rw[yA]at dR
   have aA:jB t.w.toNat=jB w:=by rw[yA];rfl
   have ej:(jB w).length<=2:=by unfold jB;split<;>simp
   have td:∀h c,dv X h .add 9 true (.str [c]) (.str (jB w))=some (.str (c::jB w)):=λh c=>by
    have:Nat.ble ([c].length+(jB w).length) 1000000000=true:=jg (by simp;omega)
    simp only[dv,Aw,this,eU];rfl
   cases j5:t.s with
   |true=>
    rw[j5]at dF
    refine ey @dE @dF @dR ⟨?_⟩
    refine(N5 az Zo).Zm ?_
    rintro ac br bL ⟨rfl,rfl,rfl⟩
    refine cq @td ⟨?_⟩
    exact⟨by simp[nh,aZ,j4,j5,aA],cd⟩
   |false=>
    rw[j5]at dF
    refine ey @dE @dF @dR ⟨?_⟩
    refine(N5 az Zo).Zm ?_
    rintro ac br bL ⟨rfl,rfl,rfl⟩
    refine cq @td ⟨?_⟩
    exact⟨by simp[nh,aZ,j4,j5,aA],cd⟩
end
def Kc{n:Nat}(a:n<100):jB n≠[]/\(jB n).length<19/\(∀c∈jB n,iM c=true)/\xf (jB n)=n:=by
 unfold jB
 split
 ·refine⟨Zs,Zs, ?_, ?_⟩
  ·intro c ax;simp at ax;subst ax;simp[iM];omega
  ·simp[xf]
 ·refine⟨Zs,Zs, ?_, ?_⟩
  ·intro c ax;simp at ax;rcases ax with rfl|rfl<;>simp[iM]<;>omega
  ·simp[xf];omega
def Pp(c:Nat)(k:aW):lk (c::k)=if c::k=[98,111,111,108]then some ⟨true,false,1⟩
 else if c=105\/c=117 then((List.range 65).find? λn=>decide (1<=n)&&decide (jB n=k)).map λn:Nat=>⟨false,decide (c=105),(n:Int)⟩
 else none:=rfl
def K9{c:Nat}{k:aW}{t:ig}(a:lk (c::k)=some t)(ah:c::k≠[98,111,111,108]):(c=105\/c=117)/\∃n:Nat,1<=n/\n<=64/\jB n=k/\t=⟨false,decide (c=105),(n:Int)⟩:=by
 rw[Pp]at a
 rw[Zg ah]at a
 split at a
 ·rename_i ax
  refine⟨ax, ?_⟩
  simp only[Yl]at a
  obtain⟨n,H,K⟩:=a
  have ak:=List.find?_some H
  have ay:=List.mem_of_find?_eq_some H
  simp at ak ay
  exact⟨n,ak.1,Zo,ak.2,K.symm⟩
 ·cases a
def agK{c:Nat}{k:aW}(a:lk (c::k)=none)(ax:c=105\/c=117){n:Nat}(H:1<=n)(K:n<=64):jB n≠k:=by
 intro aM
 rw[Pp]at a
 split at a
 ·cases a
 ·first
  |rw[Zq ax]at a
  |skip
  simp at a
  exact a n Zo H aM
def bG.set{C:aK}{h aU:S ai}{j aL b aP:Nat}{cN:Option ai}(a:bG C h j aU aL)(ah:j<=b)(a8:C.bf<=j)(aM:aL<=aP):bG C h j (bp C aU b cN) aP:=
 ⟨Zy a.le aM,λe D=>by rw[aJ Zo Zo];exact a.ad e D⟩
section
variable{X:co}{h R aU aQ:S ai}{j ap aL bc fZ:Nat}{s:aW}{i:Nat}
def agJ(az:jd X)(cd:mo X)(aD:s.length<=65536)(ah:∀c∈s,c<256)(yv:Cm s)(aM:(q X).bf<=j):
 ba X 56 [.str s] h j (λac R ap=>ac= .tuple [.agg (lC ((lk s).getD dC)), .bool (lk s).isSome]/\bG X h j R ap) (λ_ _ _=>False):=by
 refine zJ az.todN (ajM X) ?_
 rw[ajN]
 unfold W1
 by_cases wq:s=[98,111,111,108]
 ·have d:decide (s=[98,111,111,108])=true:=by simp[wq]
  refine cq @d ⟨?_⟩
  exact⟨by subst wq;rfl,dS⟩
 have d:decide (s=[98,111,111,108])=false:=by simp[wq]
 cases s with
 |nil=>
  have cE:decide (([]:List Nat)=[])=true:=rfl
  refine dd @d @cE ⟨?_⟩
  exact⟨rfl,dS⟩
 |cons c k=>
  have cE:decide (c::k=[])=false:=by simp
  have dV:nQ (.str (c::k)) (.Z 0)=some (.int .u8 (c:Int)):=Bs (i:=0) .i64 rfl
  by_cases ax:c=105\/c=117
  ·have g5:mQ (.str (c::k)) (some (.Z 1)) none=some (.str k):=Pb (k:=1) .i64 Zs
   have ej:k.length<=65536:=by simp at aD;omega
   have uW:∀c∈k,c<256:=λx af=>ah x (Zt _ af)
   have arM:Cm k:=λx af=>yv x (Zt _ af)
   have eV:∃ch cD,decide ((c:Int)≠117)=ch/\decide ((c:Int)≠105)=cD/\(ch=false\/ch=true/\cD=false):=by
    rcases ax with rfl|rfl
    ·exact⟨true,false,rfl,rfl, .inr ⟨rfl,rfl⟩⟩
    ·exact⟨false,true,rfl,rfl, .inl rfl⟩
   obtain⟨ch,cD,eV,iI,og⟩:=eV
   have fG:decide ((c:Int)=105)=decide (c=105):=by simp;omega
   rcases og with rfl|⟨rfl,rfl⟩
   all_goals
    refine lT @d @cE @dV @eV @iI @g5 ⟨?_⟩
    refine ff (λaU=>Z X aU j=zG [.zF, .zF, .Z 0] 3/\bG X h j aU (j+1)) ⟨bz aM,dS⟩ ?_
    rintro aU ⟨b4,cb⟩
    refine(X9 az cd ej uW arM Zo).Zm ?_
    rintro ac aQ bc ⟨⟨aG,B,rfl,a7,af⟩,cu⟩
    have gE:=cu.le
    have b1:Z X aQ j=zG [.zF, .zF, .Z 0] 3:=by rw[cu.ad _ Zo];exact b4
    have nE:=cb.trans cu
    refine dd @dV @fG ⟨?_⟩
    generalize gk:bp X _ bc _=br
    have cM:Z X br j=zG [.zF, .zF, .Z 0] 3:=by rw[<-gk];simp(disch:=omega) only[aJ];exact b1
    have eu:Z X br bc=zG [.zF, .bool (decide (c=105)), .Z aG] 3:=by rw[<-gk];rw[bz Zo];rfl
    have cz:bG X h j br (bc+1):=nE.trans (by rw[<-gk];exact dS)
    clear gk
    rcases a7 with rfl|⟨b,rfl⟩
    ·refine dd @D9 (bX eu) ⟨?_⟩
     refine(D3 (j:=bc+1) (h:=br) az.todN ⟨false,decide (c=105),aG⟩ (Zy aM cz.le)).Zm ?_
     rintro ac b0 cU ⟨rfl,dz⟩
     have jy:=dz.le
     have eZ:Z X b0 j=zG [.zF, .zF, .Z 0] 3:=by rw[dz.ad _ Zo];exact cM
     have eb:Z X b0 bc=zG [.zF, .bool (decide (c=105)), .Z aG] 3:=by rw[dz.ad _ Zo];exact eu
     cases aZ:kW ⟨false,decide (c=105),aG⟩with
     |false=>
      have bh:lk (c::k)=none:=by
       cases bh:lk (c::k)with
       |none=>rfl
       |some t=>
        obtain⟨_,n,H,K,ak,rfl⟩:=K9 bh wq
        obtain⟨cP,cG,d4,fK⟩:=Kc (by omega:n<100)
        rw[ak]at cP cG d4 fK
        have:=(af cP cG d4).2
        rw[fK]at this
        subst this
        simp[kW]at aZ
        omega
      rw[bh]
      refine cq (bX eZ) ⟨?_⟩
      exact⟨rfl,bG.set (cz.trans dz) Zo aM Zo⟩
     |true=>
      have ce:1<=aG/\aG<=64:=by simpa[kW]using aZ
      obtain⟨n,rfl⟩:=Yd (by omega:0<=aG)
      refine cq (bX eb) ⟨?_⟩
      refine(ayc (j:=cU) (h:=b0) az.todN ⟨false,decide (c=105),(n:Int)⟩ Zo).Zm ?_
      rintro ac b5 cA ⟨rfl,d1⟩
      have jz:=d1.le
      have eW:Z X b5 j=zG [.zF, .zF, .Z 0] 3:=by rw[d1.ad _ Zo];exact eZ
      have iX:Z X b5 bc=zG [.zF, .bool (decide (c=105)), .Z (n:Int)] 3:=by rw[d1.ad _ Zo];exact eb
      have Dr:nh ⟨false,decide (c=105),(n:Int)⟩=c::jB n:=by
       rcases ax with rfl|rfl<;>simp[nh,aZ]<;>simp_all
      have IT:=(cz.trans dz).trans d1
      by_cases aw:jB n=k
      ·have bh:lk (c::k)=some ⟨false,decide (c=105),(n:Int)⟩:=by
        cases bh:lk (c::k)with
        |none=>exact absurd aw (agK bh ax Zo Zo)
        |some t=>
         obtain⟨_,aP,H,K,ak,rfl⟩:=K9 bh wq
         obtain⟨cP,cG,d4,fK⟩:=Kc (by omega:n<100)
         obtain⟨_,_,_,mj⟩:=Kc (by omega:aP<100)
         rw[ak, <-aw,fK]at mj
         rw[mj]
       have hP:decide (nh ⟨false,decide (c=105),(n:Int)⟩≠c::k)=false:=by rw[Dr,aw];simp
       rw[bh]
       refine dd @hP (bX iX) ⟨?_⟩
       refine⟨rfl,bG.set IT Zo aM Zo⟩
      ·have bh:lk (c::k)=none:=by
        cases bh:lk (c::k)with
        |none=>rfl
        |some t=>
         obtain⟨_,aP,H,K,ak,rfl⟩:=K9 bh wq
         obtain⟨cP,cG,d4,fK⟩:=Kc (by omega:aP<100)
         rw[ak]at cP cG d4 fK
         have:=(af cP cG d4).2
         rw[fK]at this
         have:n=aP:=Zo
         subst this
         exact absurd ak aw
       have hP:decide (nh ⟨false,decide (c=105),(n:Int)⟩≠c::k)=true:=by rw[Dr];simp[aw]
       rw[bh]
       refine cq @hP ⟨?_⟩
       exact⟨rfl,bG.set IT Zo aM Zo⟩
    ·have bh:lk (c::k)=none:=by
      cases bh:lk (c::k)with
      |none=>rfl
      |some t=>
       obtain⟨_,n,H,K,ak,rfl⟩:=K9 bh wq
       obtain⟨cP,cG,d4,fK⟩:=Kc (by omega:n<100)
       rw[ak]at cP cG d4 fK
       exact absurd (af cP cG d4).1 Zs
     rw[bh]
     refine cq @aff ⟨?_⟩
     exact⟨rfl,bG.set cz Zo aM Zo⟩
  ·have eV:decide ((c:Int)≠117)=true:=by simp only[Zi];omega
   have iI:decide ((c:Int)≠105)=true:=by simp only[Zi];omega
   refine ht @d @cE @dV @eV @iI ⟨?_⟩
   have bh:lk (c::k)=none:=by rw[Pp];rw[Zg wq,Zg ax]
   rw[bh]
   exact⟨rfl,dS⟩
end
def BW(w:Int):Int:=(18446744073709551615:Int).fdiv (2^(min (64-w).toNat 64))
def Ib(x e:Int):Int:=oK .u64 ((BitVec.ofInt 64 x&&& ~~~ BitVec.ofInt 64 e).toNat)
def DJ(t:ig)(n:Int):Bool:=kW t&&decide (Ib n (BW t.w)=0)
def u1(t:ig)(n:Int):Bool:=if t.s then(if t.w-1=0 then decide (n=0)else DJ ⟨false,false,t.w-1⟩ n)else DJ t n
def vq:List aW:=[[110,111,100,101],[114,101,116,117,114,110,115],[118,97,114],[108,101,116],[116,101,108],[119,104,101,110],[110,111,116],[112,114,101],[102,98,121],[109,101,114,103,101],
 [105,102],[116,104,101,110],[101,108,115,101],[97,110,100],[111,114],[120,111,114],[116,114,117,101],[102,97,108,115,101]]
structure Lv(X:co):Prop where
 at_:∃v,∀h,aV X h (.ptr 1 0)=some v/\∀s:aW,l2 X h 9 .zF v (.str s) false=some (.bool (decide (s∈vq)))
section
variable{X:co}{h R aU aQ:S ai}{j ap aL bc fZ:Nat}{s:aW}{i:Nat}
def axH(az:dN X)(eN:Lv X)(s:aW):ba X 58 [.str s] h j (λac R ap=>ac= .bool (decide (s∈vq))/\R=h/\ap=j) (λ_ _ _=>False):=by
 refine zJ az (ajQ X) ?_
 rw[ajR]
 unfold W3
 obtain⟨v,bo⟩:=eN.at_
 obtain⟨H,K⟩:=bo h
 have ak:=K s
 refine dd @H @ak ⟨?_⟩
 exact⟨rfl,rfl,rfl⟩
def aww(az:dN X)(t:ig)(bh:1<=t.w/\t.w<=64)(aM:(q X).bf<=j):ba X 128 [.agg (lC t)] h j (λac R ap=>ac= .int .u64 (BW t.w)/\bG X h j R ap) (λ_ _ _=>False):=by
 refine zJ az (ah0 X) ?_
 rw[ah1]
 unfold V8 lC
 have bw:bm .sub (.Z 64) (.Z t.w)=some (.Z (64-t.w)):=tH Zo Zo
 have b3:bm .shr (.int .u64 18446744073709551615) (.Z (64-t.w))=some (.int .u64 (BW t.w)):=by
  have:decide ((64-t.w)<0)=false:=by simp only[Zc];omega
  simp only[bm,lv,eU,H8,rj,this,ku,o9,FT]
  rfl
 refine dd @bw @b3 ⟨?_⟩
 exact⟨rfl,dS⟩
def Oq{t:ig}(a:kW t=true):1<=t.w/\t.w<=64:=by
 unfold kW at a
 split at a<;>simp at a<;>omega
def aed(az:dN X)(t:ig)(n:Int)(aM:(q X).bf<=j):ba X 96 [.agg (lC t), .int .u64 n] h j (λac R ap=>ac= .bool (DJ t n)/\bG X h j R ap) (λ_ _ _=>False):=by
 refine zJ az (akG X) ?_
 rw[akH]
 unfold Xx
 have bh:lC t=[.bool t.b, .bool t.s, .Z t.w]:=rfl
 rw[bh]
 refine cY ⟨?_⟩
 refine ff (λaU=>Z X aU j=zG [.bool t.b, .bool t.s, .Z t.w] 3/\bG X h j aU (j+1)) ⟨bz aM,dS⟩ ?_
 rintro aU ⟨b4,cb⟩
 refine(D3 az t Zo).Zm ?_
 rintro ac aQ bc ⟨rfl,cu⟩
 have gE:=cu.le
 have cd:=cb.trans cu
 have b1:Z X aQ j=zG [.bool t.b, .bool t.s, .Z t.w] 3:=by rw[cu.ad _ Zo];exact b4
 cases aZ:kW t with
 |false=>
  refine cY ⟨?_⟩
  exact⟨by simp[DJ,aZ],cd⟩
 |true=>
  refine cq (bX b1) ⟨?_⟩
  refine(aww (j:=bc) (h:=aQ) az t (Oq aZ) Zo).Zm ?_
  rintro ac br bL ⟨rfl,cz⟩
  have bw:bm .andNot (.int .u64 n) (.int .u64 (BW t.w))=some (.int .u64 (Ib n (BW t.w))):=by
   simp only[bm,lv,ku,lx,eU,lo,kT,FT];rfl
  refine cq @bw ⟨?_⟩
  exact⟨by simp[DJ,aZ],cd.trans cz⟩
def ase(az:dN X)(t:ig)(bh:kW t=true)(n:Int)(aM:(q X).bf<=j):ba X 57 [.agg (lC t), .int .u64 n] h j (λac R ap=>ac= .bool (u1 t n)/\bG X h j R ap) (λ_ _ _=>False):=by
 refine zJ az (ajO X) ?_
 rw[ajP]
 unfold W2
 have bF:=Oq bh
 have gC:lC t=[.bool t.b, .bool t.s, .Z t.w]:=rfl
 rw[gC]
 have bw:bm .sub (.Z t.w) (.Z 1)=some (.Z (t.w-1)):=tH Zo Zo
 cases j5:t.s with
 |false=>
  refine cY ⟨?_⟩
  refine ff (λaU=>bG X h j aU (j+1)) dS ?_
  intro aU cb
  have:=aed (j:=j+1) (h:=aU) az t n Zo
  rw[gC,j5]at this
  refine this.Zm ?_
  rintro ac aQ bc ⟨rfl,cu⟩
  refine cY ⟨?_⟩
  exact⟨by simp[u1,j5],cb.trans cu⟩
 |true=>
  by_cases a8:t.w-1=0
  ·have d:decide (t.w-1=0)=true:=by simp[a8]
   refine dd @bw @d ⟨?_⟩
   refine gr (km (o:=3) (b:=j) (U:=0) (n:=3) (c:=S.ofList [.bool t.b, .zT, .Z t.w] 0 .nil) (bz aM) Zo rfl Zd Zd rfl) ?_
   refine cq @d ⟨?_⟩
   exact⟨by simp[u1,j5,a8],dS⟩
  ·have d:decide (t.w-1=0)=false:=by simp[a8]
   refine dd @bw @d ⟨?_⟩
   refine gr (km (o:=3) (b:=j) (U:=0) (n:=3) (c:=S.ofList [.bool t.b, .zT, .Z t.w] 0 .nil) (bz aM) Zo rfl Zd Zd rfl) ?_
   refine cq @d ⟨?_⟩
   refine ff (λaU=>bG X h j aU (j+1)) dS ?_
   intro aU cb
   refine(aed (j:=j+1) (h:=aU) az ⟨false,false,t.w-1⟩ n Zo).Zm ?_
   rintro ac aQ bc ⟨rfl,cu⟩
   refine cY ⟨?_⟩
   exact⟨by simp[u1,j5,a8],cb.trans cu⟩
end
def tO(s:aW)(i:Nat):Tok×Bool:=
 let w:=(s.drop i).takeWhile i7
 (⟨if (lk w).isSome then 3 else if w∈vq then 2 else 1,w,0,0,(lk w).getD dC⟩,decide (w.length<=32))
def afq{k:aW}(a:∀c∈k,i7 c=true):Cm k:=by
 intro c ax
 have:=a c ax
 simp[i7,qt,iM]at this
 omega
def agD{α:Type}(p:α->Bool):∀k:List α,∀c∈k.takeWhile p,p c=true:=by
 intro k
 induction k with
 |nil=>simp
 |cons E k ag=>
  intro c ax
  rw[YF]at ax
  split at ax
  ·rcases Zr.1 ax with rfl|ax
   ·assumption
   ·exact ag c ax
  ·simp at ax
section
variable{X:co}{h R aU aQ:S ai}{j ap aL bc fZ:Nat}{s:aW}{i:Nat}
def Uo(V:mW X h fZ s i)(ah:∀c∈s,c<256)(W:Nat)(p:Nat->Bool)(av:∀c,p c=true->i7 c=true):((s.drop W).takeWhile p).length<=65536/\(∀c∈(s.drop W).takeWhile p,c<256)/\Cm ((s.drop W).takeWhile p):=by
 have H:=EO p (s.drop W)
 rw[Yp]at H
 have:=V.many
 refine⟨Zo,λc ax=>ah c (Y4 ((List.takeWhile_sublist p).subset ax)),afq λc ax=>av c (agD p _ c ax)⟩
def aAf(az:jd X)(cd:mo X)(eN:Lv X)(V:mW X h fZ s i)(ah:∀c∈s,c<256)(aM:(q X).bf<=j)(JU:fZ<j):
 ba X 34 [.ptr fZ 0] h j (λac R ap=>ac= .tuple [.agg (b6 (tO s i).1), .bool (tO s i).2]/\bG X h j R ap) (λ_ _ _=>False):=by
 refine zJ az.todN (ai6 X) ?_
 rw[ai7]
 unfold WH
 have dF:=V.dF
 have hc:=V.ck
 obtain⟨cP,cG,d4⟩:=Uo V ah i i7 (λ_ a=>a)
 have om:∀cN,mW X (bp X h j cN) fZ s i:=λcN=>V.ad (aJ aM Zo)
 refine cq @dF ⟨?_⟩
 refine(O4 az.todN (agd az.todN) (om _) V.le).Zm ?_
 rintro ac aQ bc ⟨rfl,rfl,rfl⟩
 unfold tO
 generalize (s.drop i).takeWhile i7=w at*
 simp only[]
 refine cY ⟨?_⟩
 refine ff (λaU=>Z X aU j=zG [.Z 0, .str [], .Z 0, .int .u64 0, .zF, .zF, .Z 0] 7/\Z X aU (j+1)=zG [.Z 1, .str w, .Z 0, .int .u64 0, .zF, .zF, .Z 0] 7/\bG X h j aU (j+1+1)) ⟨by simp(disch:=omega) only[aJ,bz]<;>rfl,by rw[bz Zo];rfl,dS⟩ ?_
 rintro aU ⟨b4,b1,cb⟩
 refine(agJ az cd cP cG d4 Zo).Zm ?_
 rintro ac br bL ⟨rfl,cz⟩
 have jo:=cz.le
 have sk:=cb.trans cz
 have cM:Z X br j=zG [.Z 0, .str [], .Z 0, .int .u64 0, .zF, .zF, .Z 0] 7:=by rw[cz.ad _ Zo];exact b4
 have eu:Z X br (j+1)=zG [.Z 1, .str w, .Z 0, .int .u64 0, .zF, .zF, .Z 0] 7:=by rw[cz.ad _ Zo];exact b1
 generalize bh:(lk w).getD dC=t
 have GH:lC t=[.bool t.b, .bool t.s, .Z t.w]:=rfl
 rw[GH]
 have Ir:decide ((w.length:Int)<=32)=decide (w.length<=32):=by simp;omega
 have fin:∀(cp:S ai) (d2:Nat) (o:Int) (g8:ig) (un:S z),bL<=d2->bG X h j cp d2->Z X cp (j+1)=some (.cells un 7 .own)->Z X cp j=zG [.Z 0, .str [], .Z 0, .int .u64 0, .zF, .zF, .Z 0] 7->
  un.get 0=some (.Z o)->un.get 1=some (.str w)->un.get 2=some (.Z 0)->un.get 3=some (.int .u64 0)->un.get 4=some (.bool g8.b)->un.get 5=some (.bool g8.s)->un.get 6=some (.Z g8.w)->
  ar (ep X cp 7 (.ptr (j+1) 0)) λazO=>ar (mI (.str w)) λazP=>ar (bm .leq azP (.Z 32)) λazQ=>ar (eI X cp 7 (.ptr j 0) azO) λXF=>ar (ep X XF 7 (.ptr j 0)) λv37=>
   z.tuple [v37,azQ]= .tuple [.agg (b6 ⟨o,w,0,0,g8⟩), .bool (decide (w.length<=32))]/\bG X h j XF d2:=by
  intro cp d2 o g8 un arY eQ eb eW wM bJ b2 cF fb eS eK
  have fH:=j7 eb wM;have cO:=j7 eb bJ;have b9:=j7 eb b2;have d9:=j7 eb cF;have fI:=j7 eb fb;have fA:=j7 eb eS;have ly:=j7 eb eK
  refine eD @fH @cO @b9 @d9 @fI @fA (Za @ly @Ir) ⟨?_⟩
  exact⟨rfl,bG.set eQ (Zh _) aM (Zh _)⟩
 cases sv:(lk w).isSome with
 |true=>
  refine h4 ⟨?_⟩
  refine h4 ⟨?_⟩
  refine h4 ⟨?_⟩
  refine h4 ⟨?_⟩
  refine h4 ⟨?_⟩
  generalize hV:bp X _ bL _=b0
  have eZ:Z X b0 bL=zG [.bool t.b, .bool t.s, .Z t.w] 3:=by rw[<-hV,bz Zo];rfl
  have eb:Z X b0 j=zG [.Z 0, .str [], .Z 0, .int .u64 0, .zF, .zF, .Z 0] 7:=by rw[<-hV];simp(disch:=omega) only[aJ];exact cM
  have eW:Z X b0 (j+1)=zG [.Z 1, .str w, .Z 0, .int .u64 0, .zF, .zF, .Z 0] 7:=by rw[<-hV];simp(disch:=omega) only[aJ];exact eu
  have dz:bG X h j b0 (bL+1):=sk.trans (by rw[<-hV];exact dS)
  clear hV cM eu
  refine cq (bX eZ) ⟨?_⟩
  refine ka (by simp[z.same,pK,rz]) ?_
  generalize j1:bp X b0 (j+1) _=b5
  have be:∀e,e≠j+1->Z X b5 e=Z X b0 e:=λe D=>by rw[<-j1,aJ Zo D]
  have iX:Z X b5 (j+1)=some (.cells (dM (S.ofList [.Z 1, .str w, .Z 0, .int .u64 0, .zF, .zF, .Z 0] 0 .nil) 0 [.Z 3]) 7 .own):=by rw[<-j1,bz Zo];rfl
  rw[<-be _ Zo]at eZ eb
  have d1:bG X h j b5 (bL+1):=⟨dz.le,λe D=>by rw[be e Zo];exact dz.ad e D⟩
  clear j1 be eW
  refine gr (km (o:=3) (b:=j+1) (U:=4) (n:=7) iX Zo rfl Zd Zd rfl) ?_
  generalize jw:bp X b5 (j+1) _=cp
  have bV:∀e,e≠j+1->Z X cp e=Z X b5 e:=λe D=>by rw[<-jw,aJ Zo D]
  have lr:Z X cp (j+1)=some (.cells (dM (dM (S.ofList [.Z 1, .str w, .Z 0, .int .u64 0, .zF, .zF, .Z 0] 0 .nil) 0 [.Z 3]) 4 [.bool t.b, .bool t.s, .Z t.w]) 7 .own):=by rw[<-jw,bz Zo];rfl
  rw[<-bV _ Zo]at eb
  have eQ:bG X h j cp (bL+1+5):=⟨zC d1.le,λe D=>by rw[bV e Zo];exact d1.ad e D⟩
  clear jw bV iX
  have:=fin cp (bL+1+5) 3 t _ Zo eQ lr eb rfl rfl rfl rfl rfl rfl rfl
  simp only[ZC]
  refine h4 ⟨?_⟩
  exact this
 |false=>
  have Tp:t=dC:=by
   rw[<-bh]
   cases bP:lk w with
   |none=>rfl
   |some t=>rw[bP]at sv;cases sv
  refine cY ⟨?_⟩
  refine ff (λb0=>bG X br bL b0 (bL+1)) dS ?_
  intro b0 dz
  have xY:=sk.trans dz
  have eb:Z X b0 j=zG [.Z 0, .str [], .Z 0, .int .u64 0, .zF, .zF, .Z 0] 7:=by rw[dz.ad _ Zo];exact cM
  have eW:Z X b0 (j+1)=zG [.Z 1, .str w, .Z 0, .int .u64 0, .zF, .zF, .Z 0] 7:=by rw[dz.ad _ Zo];exact eu
  refine(axH (j:=bL+1) (h:=b0) az.todN eN w).Zm ?_
  rintro ac b5 cA ⟨rfl,rfl,rfl⟩
  subst Tp
  simp only[Zw,ZA]
  by_cases nM:w∈vq
  ·simp only[nM,YH,ZC]
   refine h4 ⟨?_⟩
   refine h4 ⟨?_⟩
   refine h4 ⟨?_⟩
   refine gr (km (o:=1) (b:=j+1) (U:=0) (n:=7) eW Zo rfl Zd Zd rfl) ?_
   generalize jw:bp X _ (j+1) _=cp
   have bV:∀e,e≠j+1->Z X cp e=Z X b5 e:=λe D=>by rw[<-jw,aJ Zo D]
   have lr:Z X cp (j+1)=some (.cells (dM (S.ofList [.Z 1, .str w, .Z 0, .int .u64 0, .zF, .zF, .Z 0] 0 .nil) 0 [.Z 2]) 7 .own):=by rw[<-jw,bz Zo];rfl
   rw[<-bV _ Zo]at eb
   have eQ:bG X h j cp (bL+1):=⟨xY.le,λe D=>by rw[bV e Zo];exact xY.ad e D⟩
   have:=fin cp (bL+1) 2 dC _ Zo eQ lr eb rfl rfl rfl rfl rfl rfl rfl
   refine h4 ⟨?_⟩
   exact this
  ·simp only[nM,Yw,ZA]
   have:=fin b5 (bL+1) 1 dC _ Zo xY eW eb rfl rfl rfl rfl rfl rfl rfl
   refine h4 ⟨?_⟩
   refine h4 ⟨?_⟩
   refine h4 ⟨?_⟩
   exact this
end
def Ee(s:aW)(i:Nat):Option Tok:=
 let d:=(s.drop i).takeWhile iM
 if (kH d).2≠0\/20<d.length then none
 else
  let U2:=(s.drop (i+d.length)).takeWhile i7
  if U2=[]then some ⟨4,d,0,(kH d).1,dC⟩
  else match lk U2 with
   |some t=>if !t.b&&u1 t (kH d).1 then some ⟨5,d++U2,0,(kH d).1,t⟩else none
   |none=>none
def Vx:∀{w:aW}{t:ig},lk w=some t->kW t=true:=by
 intro w t a
 cases w with
 |nil=>cases a
 |cons c k=>
  by_cases ah:c::k=[98,111,111,108]
  ·rw[Pp,Zq ah]at a
   cases a
   rfl
  ·obtain⟨_,n,H,K,_,rfl⟩:=K9 a ah
   simp[kW];omega
section
variable{X:co}{h R aU aQ:S ai}{j ap aL bc fZ:Nat}{s:aW}{i:Nat}
def awd(az:jd X)(cd:mo X)(V:mW X h fZ s i)(ah:∀c∈s,c<256)(aM:(q X).bf<=j)(JU:fZ<j):
 ba X 32 [.ptr fZ 0] h j (λac R ap=>(∃o,ac= .tuple [.agg (b6 o), .bool (Ee s i).isSome]/\∀x,Ee s i=some x->o=x)/\bG X h j R ap) (λ_ _ _=>False):=by
 refine zJ az.todN (ai2 X) ?_
 rw[ai3]
 unfold WF
 have dF:=V.dF
 have hc:=V.ck
 have jx:=V.le
 have aCe:=V.many
 obtain⟨cP,cG,d4⟩:=Uo V ah i iM (λc a=>by simp[i7,a])
 have vo:=EO iM (s.drop i)
 rw[Yp]at vo
 have om:∀cN,mW X (bp X h j cN) fZ s i:=λcN=>V.ad (aJ aM Zo)
 refine cq @dF ⟨?_⟩
 refine(O4 az.todN (axT az.todN) (om _) V.le).Zm ?_
 rintro ac aQ bc ⟨rfl,rfl,rfl⟩
 generalize fX:Ee s i=N
 unfold Ee at fX
 simp only[]at fX
 generalize (s.drop i).takeWhile iM=d at*
 refine cY ⟨?_⟩
 refine ff (λaU=>Z X aU j=zG [.Z 0, .str [], .Z 0, .int .u64 0, .zF, .zF, .Z 0] 7/\bG X h j aU (j+1)) ⟨by simp(disch:=omega) only[aJ,bz]<;>rfl,dS⟩ ?_
 rintro aU ⟨b4,cb⟩
 refine(awN az cd cP cG Zo).Zm ?_
 rintro ac br bL ⟨⟨B,rfl,a7⟩,cz⟩
 have jo:=cz.le
 have sk:=cb.trans cz
 have cM:Z X br j=zG [.Z 0, .str [], .Z 0, .int .u64 0, .zF, .zF, .Z 0] 7:=by rw[cz.ad _ Zo];exact b4
 have yt:=V.ad (sk.ad fZ JU)
 have aCX:z.agg [.Z 0, .str [], .Z 0, .int .u64 0, .zF, .zF, .Z 0]= .agg (b6 g1):=rfl
 rcases a7 with ⟨a8,rfl⟩|⟨a8,b,rfl⟩
 ·by_cases ej:20<d.length
  ·rw[Zq (.inr ej)]at fX
   subst fX
   have cI:decide ((20:Int)<(d.length:Int))=true:=by simp only[Zi];omega
   refine dd @D9 @cI ⟨?_⟩
   exact⟨⟨g1,rfl,λx a=>by cases a⟩,bG.set sk Zo aM Zo⟩
  have cI:decide ((20:Int)<(d.length:Int))=false:=by simp only[Zc];omega
  rw[Zg (by rintro(a|a);exact a a8;exact ej a)]at fX
  have g3:=yt.dF
  have bw:bm .add (.Z (i:Int)) (.Z (d.length:Int))=some (.Z ((i+d.length:Nat):Int)):=by rw[eG Zo Zo];rfl
  refine hm @D9 @cI @g3 @bw ⟨?_⟩
  refine(O4 az.todN (agd az.todN) yt Zo).Zm ?_
  rintro ac b0 cU ⟨rfl,rfl,rfl⟩
  obtain⟨e7,hh,vm⟩:=Uo yt ah (i+d.length) i7 (λ_ a=>a)
  generalize (s.drop (i+d.length)).takeWhile i7=w at*
  by_cases bF:w=[]
  ·have cE:decide (w=[])=true:=by simp[bF]
   rw[Zq bF]at fX
   subst fX
   refine cq @cE ⟨?_⟩
   exact⟨⟨⟨4,d,0,(kH d).1,dC⟩,rfl,λx a=>by cases a;rfl⟩,bG.set sk Zo aM Zo⟩
  have cE:decide (w=[])=false:=by simp[bF]
  rw[Zg bF]at fX
  refine cq @cE ⟨?_⟩
  refine(agJ az cd e7 hh vm Zo).Zm ?_
  rintro ac b5 cA ⟨rfl,d1⟩
  have jz:=d1.le
  have eZ:Z X b5 j=zG [.Z 0, .str [], .Z 0, .int .u64 0, .zF, .zF, .Z 0] 7:=by rw[d1.ad _ Zo];exact cM
  have C2:=sk.trans d1
  generalize bh:(lk w).getD dC=t
  have GH:lC t=[.bool t.b, .bool t.s, .Z t.w]:=rfl
  rw[GH]
  refine h4 ⟨?_⟩
  refine h4 ⟨?_⟩
  refine h4 ⟨?_⟩
  refine h4 ⟨?_⟩
  refine h4 ⟨?_⟩
  generalize jw:bp X _ cA _=cp
  have eb:Z X cp cA=zG [.bool t.b, .bool t.s, .Z t.w] 3:=by rw[<-jw,bz Zo];rfl
  have eW:Z X cp j=zG [.Z 0, .str [], .Z 0, .int .u64 0, .zF, .zF, .Z 0] 7:=by rw[<-jw];simp(disch:=omega) only[aJ];exact eZ
  have eQ:bG X h j cp (cA+1):=C2.trans (by rw[<-jw];exact dS)
  clear jw eZ cM b4
  have td:∀h,dv X h .add 9 false (.str d) (.str w)=some (.str (d++w)):=λh=>by
   have:Nat.ble (d.length+w.length) 1000000000=true:=jg Zo
   simp only[dv,Aw,this,eU]
  have Va:∀aj:Prop,aj->iB (.str (d++w)) (some (.str (d++w))) aj:=λaj a=>ka (by simp[z.same,BM]) a
  have K0:∀aj:Prop,aj->iB (.agg [.bool t.b, .bool t.s, .Z t.w]) (some (.agg [.bool t.b, .bool t.s, .Z t.w])) aj:=λaj a=>ka (by simp[z.same,pK,rz]) a
  have gg:b6 ⟨5,d++w,0,(kH d).1,t⟩=[.Z 5, .str (d++w), .Z 0, .int .u64 (kH d).1, .bool t.b, .bool t.s, .Z t.w]:=rfl
  cases sv:lk w with
  |none=>
   rw[sv]at fX
   simp only[]at fX
   subst fX
   simp only[Z4]
   refine dd @td (bX eb) ⟨?_⟩
   refine Va _ ?_
   refine dd @td (bX eb) ⟨?_⟩
   refine K0 _ ?_
   refine cY ⟨?_⟩
   refine⟨⟨⟨5,d++w,0,(kH d).1,t⟩, ?_,λx a=>by cases a⟩,bG.set eQ Zo aM Zo⟩
   rw[gg]
  |some g8=>
   have atj:g8=t:=by rw[sv]at bh;exact bh
   subst atj
   have arQ:=Vx sv
   rw[sv]at fX
   simp only[]at fX
   cases j4:g8.b with
   |true=>
    rw[j4]at fX eb gg K0
    simp only[Yy,Bool.false_and,Zw,ZA]at fX
    subst fX
    simp only[Z4,Z6]
    refine dd @td (bX eb) ⟨?_⟩
    refine Va _ ?_
    refine dd @td (bX eb) ⟨?_⟩
    refine K0 _ ?_
    refine cY ⟨?_⟩
    refine⟨⟨⟨5,d++w,0,(kH d).1,g8⟩, ?_,λx a=>by cases a⟩,bG.set eQ Zo aM Zo⟩
    rw[gg]
   |false=>
    rw[j4]at fX eb gg K0
    simp only[Yz,Bool.true_and]at fX
    simp only[Z6]
    refine dd @td (bX eb) ⟨?_⟩
    have ax:=ase (j:=cA+1+19) (h:=cp) az.todN g8 arQ ((kH d).1:Int) Zo
    have ath:lC g8=[.zF, .bool g8.s, .Z g8.w]:=by unfold lC;rw[j4]
    rw[ath]at ax
    refine ax.Zm ?_
    rintro ac cH eh ⟨rfl,e3⟩
    have pF:=e3.le
    have iX:Z X cH cA=zG [.zF, .bool g8.s, .Z g8.w] 3:=by rw[e3.ad _ Zo];exact eb
    have lr:Z X cH j=zG [.Z 0, .str [], .Z 0, .int .u64 0, .zF, .zF, .Z 0] 7:=by rw[e3.ad _ Zo];exact eW
    have apX:bG X h j cH eh:=⟨zC eQ.le,λe D=>by rw[e3.ad e (zC eQ.le)];exact eQ.ad e D⟩
    have aqd:N.isSome=u1 g8 ((kH d).1:Int):=by
     rw[<-fX];cases u1 g8 ((kH d).1:Int)<;>rfl
    rw[aqd]
    refine cq @td ⟨?_⟩
    refine Va _ ?_
    refine cq (bX iX) ⟨?_⟩
    refine K0 _ ?_
    refine cY ⟨?_⟩
    refine⟨⟨⟨5,d++w,0,(kH d).1,g8⟩, ?_,λx a=> ?_⟩,bG.set apX Zo aM Zo⟩
    ·rw[gg]
    ·rw[<-fX]at a
     split at a
     ·cases a;rfl
     ·cases a
 ·rw[Zq (.inl a8)]at fX
  subst fX
  refine cq @aff ⟨?_⟩
  exact⟨⟨g1,rfl,λx a=>by cases a⟩,bG.set sk Zo aM Zo⟩
end
def y2:List aW:=[[45,62],[60,60],[62,62],[60,61],[62,61],[60,62],[40],[41],[44],[59],[58],[61],[60],[62],[43],[45],[42]]
structure PV(X:co):Prop where
 at_:∀h,ep X h 17 (.ptr 0 0)=some (.agg (y2.map z.str))
def Ja(s p:aW):Bool:=decide (p.length<=s.length/\s.take p.length=p)
def vt(s:aW)(i:Nat):Option aW:=y2.find? (Ja (s.drop i))
def EC(p:aW):Tok:=⟨6,p,0,0,dC⟩
def aa5{α:Type}(p:α->Bool):∀(k:List α) (W:Nat),(∀o<W,∀x,k[o]? =some x->p x=false)->k.find? p=(k.drop W).find? p:=by
 intro k W
 induction W with
 |zero=>intro _;rfl
 |succ W ag=>
  intro a
  rw[ag λo aC=>a o Zo]
  by_cases bx:W<k.length
  ·rw[Zz bx,zf]
   have:=a W Zo k[W] (Ze bx)
   rw[this]
  ·rw[ZJ Zo,ZJ Zo]
section
variable{X:co}{h R aU aQ:S ai}{j ap aL bc fZ:Nat}{s:aW}{i:Nat}
def ayu(az:jd X)(eN:PV X)(V:mW X h fZ s i)(aM:(q X).bf<=j)(JU:fZ<j):
 ba X 30 [.ptr fZ 0] h j (λac R ap=>ac= .tuple [.agg (b6 (match vt s i with|some p=>EC p|none=>g1)), .bool (vt s i).isSome]/\bG X h j R ap) (λ_ _ _=>False):=by
 refine zJ az.todN (aiY X) ?_
 rw[aiZ]
 unfold WD
 have hc:=V.ck
 have g5:mQ (.str s) (some (.Z (i:Int))) none=some (.str (s.drop i)):=Pb .i64 V.le
 have bS:=eN.at_
 refine cq @bS ⟨?_⟩
 have b4:Z X (bp X h j (zG [.Z 0, .str [], .Z 0, .int .u64 0, .zF, .zF, .Z 0] 7)) j=zG [.Z 0, .str [], .Z 0, .int .u64 0, .zF, .zF, .Z 0] 7:=bz aM
 have cb:bG X h j (bp X h j (zG [.Z 0, .str [], .Z 0, .int .u64 0, .zF, .zF, .Z 0] 7)) (j+1):=dS
 refine fP (λm I R aP=>∃(W:Nat),I.g 0=some (.ptr fZ 0)/\I.g 2=some (.ptr j 0)/\I.g 6=some (.agg (y2.map z.str))/\I.g 7=some (.Z (W:Int))/\W+m=17/\Z X R j=zG [.Z 0, .str [], .Z 0, .int .u64 0, .zF, .zF, .Z 0] 7/\bG X h j R aP/\j+1<=aP/\∀o<W,∀x,y2[o]? =some x->Ja (s.drop i) x=false)
  17 ⟨0,bt,bt,bt,gc,Zo,b4,cb,Zh _,λo aC=>Zo⟩ ?_
 clear b4 cb
 rintro m I aQ bc ⟨W,t0,ei,g9,fC,bx,b1,cu,lX,ma⟩
 have hf:=V.ad (cu.ad fZ JU)
 have dE:=hf.dE
 have dF:=hf.dF
 cases m with
 |zero=>
  have d:decide ((W:Int)<17)=false:=by simp only[Zc];omega
  have b8:vt s i=none:=by
   unfold vt
   rw[aa5 _ _ W ma,show y2.drop W=[] from ZJ (by show 17<=W;omega)]
   rfl
  rw[b8]
  refine ey @fC @d @ei ⟨?_⟩
  exact⟨rfl,bG.set cu Zo aM Zo⟩
 |succ m=>
  have d:decide ((W:Int)<17)=true:=by simp only[Zi];omega
  have bw:=zH W
  obtain⟨p,av⟩:∃p,y2[W]? =some p:=⟨_,Ze (by show W<17;omega)⟩
  have dV:yD false 17 1 (.agg (y2.map z.str)) (.Z (W:Int))=some (.str p):=by
   have:Nat.blt W 17=true:=by simp[Nat.blt];omega
   simp only[yD,pL,this,eU,ku,pN,ZP,Zv,av];rfl
  refine eD @fC @g9 @t0 @d @dV @dE (Za @dF @g5) ⟨?_⟩
  refine(afS az.todN (s.drop i) p).Zm ?_
  rintro ac br bL ⟨rfl,rfl,rfl⟩
  have Dm:decide (p.length<=(s.drop i).length/\(s.drop i).take p.length=p)=Ja (s.drop i) p:=rfl
  rw[Dm]
  cases gC:Ja (s.drop i) p with
  |true=>
   have b8:vt s i=some p:=by
    unfold vt
    obtain⟨af,D⟩:=Zb.1 av
    have aI:y2.drop W=p::y2.drop (W+1):=by rw[Zz af,D]
    rw[aa5 _ _ W ma,aI,zf,gC]
   rw[b8]
   refine cq @ei ⟨?_⟩
   exact⟨rfl,bG.set cu Zo aM Zo⟩
  |false=>
   refine dd @fC @bw ⟨?_⟩
   refine⟨m,Zo,W+1,a6 t0,a6 ei,a6 g9,bt,Zo,b1,⟨Zo,cu.ad⟩,Zo,λo aC x af=> ?_⟩
   by_cases Jr:o=W
   ·subst Jr;rw[av]at af;cases af;exact gC
   ·exact ma o Zo x af
end
def xb(s:aW)(i:Nat):Option Tok:=match s[i]? with
 |none=>none
 |some c=>if iM c then Ee s i else if qt c then(if (tO s i).2 then some (tO s i).1 else none)else(vt s i).map EC
def lL(x:Tok)(i:Nat):Tok:=⟨x.kind,x.text,i,x.n,x.ty⟩
def qF(s:aW):Nat->List Tok->Nat->Option (Except Int (List Tok))
 |0,_,_=>none
 |n+1,aO,i=>if i<s.length then match xb s i with
   |none=>some (.error i)
   |some x=>qF s n (aO++[lL x i]) (n6 s s.length (i+x.text.length))
  else some (.ok (aO++[⟨7,[],i,0,dC⟩]))
def Qt(s:aW):∀(n i:Nat),i<=n6 s n i:=by
 intro n
 induction n with
 |zero=>intro i;exact Zh _
 |succ n ag=>
  intro i
  rw[n6]
  split
  ·exact Zh _
  ·split
   ·exact Zy Zo (ag (i+1))
   ·split
    ·exact Zy Zo (ag _)
    ·exact Zh _
def Vu{s:aW}{i:Nat}{x:Tok}(a:xb s i=some x):1<=x.text.length/\i+x.text.length<=s.length:=by
 unfold xb at a
 cases ax:s[i]? with
 |none=>rw[ax]at a;cases a
 |some c=>
  rw[ax]at a
  simp only[]at a
  obtain⟨af,D⟩:=Zb.1 ax
  have aI:s.drop i=c::s.drop (i+1):=by rw[Zz af,D]
  have aw:(s.drop i).length=s.length-i:=Yp
  split at a
  ·rename_i pD
   have H:=EO iM (s.drop i)
   have K:1<=((s.drop i).takeWhile iM).length:=by rw[aI,YF,pD];simp
   unfold Ee at a
   simp only[]at a
   generalize (s.drop i).takeWhile iM=d at*
   split at a
   ·cases a
   ·have ak:=EO i7 (s.drop (i+d.length))
    rw[Yp]at ak
    split at a
    ·cases a;exact⟨K,by show i+d.length<=_;omega⟩
    ·split at a
     ·split at a
      ·cases a
       refine⟨?_, ?_⟩
       ·show 1<=(d++_).length;rw[ZU];omega
       ·show i+(d++_).length<=_;rw[ZU];omega
      ·cases a
     ·cases a
  ·split at a
   ·rename_i x6
    have H:=EO i7 (s.drop i)
    have K:1<=((s.drop i).takeWhile i7).length:=by rw[aI,YF,show i7 c=true from by simp[i7,x6]];simp
    split at a
    ·cases a
     exact⟨K,by show i+((s.drop i).takeWhile i7).length<=_;omega⟩
    ·cases a
   ·simp only[Yl]at a
    obtain⟨p,H,rfl⟩:=a
    have K:=List.find?_some H
    have ak:=List.mem_of_find?_eq_some H
    simp[Ja]at K
    refine⟨?_, ?_⟩
    ·show 1<=p.length
     revert ak
     clear H K
     revert p
     decide
    ·show i+p.length<=_;omega
def dZ.narrow{C:aK}{h:S ai}{P:Nat->Prop}{b aR:Nat}{bi:z}{bu:List (List z)}(a:dZ C h P b bi aR bu):dZ C h (λe=>e=b) b bi aR bu:=⟨λ_=>rfl,a.many,a.wide,a.len,a.gF,a.cell⟩
section
variable{X:co}{h R aU aQ:S ai}{j ap aL bc fZ:Nat}{s:aW}{i:Nat}
structure HS(X:co):Prop where
 err:mo X
 res:Lv X
 sig:PV X
def XH(X:co)(j:Nat)(r:Except Int (List Tok))(ac:z)(R:S ai)(ap:Nat):Prop:=match r with
 | .error E=>ac= .tuple [.a2, .agg [.Z 20, .Z E]]
 | .ok aO=>∃am bM,ac= .tuple [am, .agg [.Z 0, .Z 0]]/\dZ X R (λe=>e=bM) bM am 7 (aO.map b6)/\j<=bM/\bM<ap
def alr(az:jd X)(eN:HS X)(aD:s.length<=65536)(ah:∀c∈s,c<256)(aM:(q X).bf<=j){a0:z}(aw:eT a0=some (.Z (s.length:Int)))(yb:∀R aP,bG X h j R aP->AM X R a0=some (.str s))
 {r:Except Int (List Tok)}(V:qF s (s.length+1) [] (n6 s s.length 0)=some r):
 ba X 16 [a0] h j (λac R ap=>XH X j r ac R ap/\bG X h j R ap) (λ_ _ _=>False):=by
 refine zJ az.todN (aiA X) ?_
 rw[aiB]
 unfold Wo
 have mZ:decide ((65536:Int)<(s.length:Int))=false:=by simp only[Zc];omega
 have wt:=yb (bp X h j (zG [.Z 0, .Z 0] [z.Z 0, .Z 0].length)) (j+1) dS
 refine dd @aw @mZ ⟨?_⟩
 refine gr wt ?_
 refine cY ⟨?_⟩
 refine ff (λaU=>Z X aU j=zG [.Z 0, .Z 0] 2/\Z X aU (j+1)=zG [.str s, .Z ((0:Nat):Int)] 2/\bG X h j aU (j+1+1)) ⟨by simp(disch:=omega) only[aJ,bz]<;>rfl,by rw[bz Zo];rfl,dS⟩ ?_
 rintro aU ⟨b4,b1,cb⟩
 have om:mW X aU (j+1) s 0:=⟨b1,Zo,aD,Zo⟩
 refine(η az om ah Zo Zo).Zm ?_
 rintro ac aQ bc ⟨hf,dy⟩
 have gE:=dy.le
 have cM:Z X aQ j=zG [.Z 0, .Z 0] 2:=by rw[dy.ad _ Zo Zs];exact b4
 have cu:bG X h j aQ bc:=⟨Zo,λe D=>by rw[dy.ad e Zo (by simp;omega)];exact cb.ad e D⟩
 refine gM ?_
 refine fP (λm I R aP=>∃(bi:z) (aO:List Tok) (cw:List Nat) (W:Nat),I.g 3=some (.ptr j 0)/\I.g 4=some (.ptr (j+1) 0)/\I.g 5=some bi/\Z X R j=zG [.Z 0, .Z 0] 2/\mW X R (j+1) s W/\f0 X R bi 7 (aO.map b6).flatten cw/\(∀e∈cw,j+2<=e/\e<aP)/\bG X h j R aP/\j+2<=aP/\aO.length<=W/\qF s m aO W=some r)
  (s.length+1) ⟨.a2,[],[],_,bt,bt,bt,cM,hf, .inl (.inl ⟨rfl,rfl,rfl⟩),Zs,cu,Zo,Zs,V⟩ ?_
 clear V b4 b1 cM om hf cb cu dy gE wt
 rintro m I aQ bc ⟨bi,aO,cw,W,t3,t4,t5,b1,hf,rf,l7,cu,lX,aCg,V⟩
 have dE:=hf.dE
 have dF:=hf.dF
 have q9:=hf.le
 cases m with
 |zero=>cases V
 |succ m=>
 rw[qF]at V
 have acR:∀r∈aO.map b6,r.length=7:=λr a=>by obtain⟨x,_,rfl⟩:=ZB.1 a;rfl
 have qj:=wb acR
 rw[Zl]at qj
 have X2:∀(br:S ai) (bL b:Nat) (x:Tok),(∀e∈cw,Z X br e=Z X aQ e)->bc<=bL->Z X br b=zG (b6 x) 7->
  ∃nV b0 gA,lK X br bL 7 bi (.slice b 0 1 1)=some (.e2 nV b0 (bL+1))/\je X b0 nV 7 ((aO++[x]).map b6).flatten gA/\(∀e∈gA,e=bL\/e∈cw)/\∀e,e≠bL->e∉cw->Z X b0 e=Z X br e:=by
  intro br bL b x aC yl R9
  have hY:jN X br 7 (.slice b 0 1 1)=some (1,b6 x):=qC R9 (mF _) rfl _
  obtain⟨nV,b0,gA,H,K,ak,ay⟩:=(rf.ad aC).append (j:=bL) Zd hY rfl Zd rfl (by rw[qj,show(b6 x).length=7 from rfl];omega) Zo (λe D=>zC (l7 e D))
  refine⟨nV,b0,gA,H, ?_,ak,ay⟩
  rw[Yo,zo,ZE,List.map_nil,Yt,List.flatten_nil,Z0]
  exact K
 by_cases bx:W<s.length
 ·have cI:=zE W s.length
  rw[Zq bx]at V
  obtain⟨c,ax⟩:∃c,s[W]? =some c:=⟨_,Ze bx⟩
  have dV:=Bs .i64 ax
  have Nb:=ah c (Zn ax)
  refine gb @t4 @dE (Za @dF (Za @cI @dV)) ⟨?_⟩
  refine gM ?_
  refine gb @t4 @dE (Za @dF (Za @cI @dV)) ⟨?_⟩
  refine gM ?_
  refine gb @t4 @dE (Za @dF (Za @cI @dV)) ⟨?_⟩
  have rd:∀(o:Nat),(iM c=true->o=32)->(iM c=false->qt c=true->o=34)->(iM c=false->qt c=false->o=30)->∀OD,bc<=OD->
   ba X o [.ptr (j+1) 0] aQ OD (λac R aP=>(∃x,ac= .tuple [.agg (b6 x), .bool (xb s W).isSome]/\∀e,xb s W=some e->x=e)/\bG X aQ OD R aP) (λ_ _ _=>False):=by
   intro o bJ b2 cF OD aB0
   unfold xb
   rw[ax]
   simp only[]
   cases pD:iM c with
   |true=>
    rw[bJ pD]
    simp only[ZC]
    exact awd az eN.err hf ah Zo Zo
   |false=>
    simp only[Zw,ZA]
    cases x6:qt c with
    |true=>
     rw[b2 pD x6]
     simp only[ZC]
     refine(aAf az eN.err eN.res hf ah Zo Zo).Zm ?_
     rintro ac R aP ⟨rfl,cd⟩
     refine⟨⟨(tO s W).1, ?_,λe a=> ?_⟩,cd⟩
     ·cases(tO s W).2<;>rfl
     ·split at a
      ·cases a;rfl
      ·cases a
    |false=>
     rw[cF pD x6]
     simp only[Zw,ZA]
     refine(ayu az eN.sig hf Zo Zo).Zm ?_
     rintro ac R aP ⟨rfl,cd⟩
     refine⟨⟨(match vt s W with|some p=>EC p|none=>g1), ?_,λe a=> ?_⟩,cd⟩
     ·cases vt s W<;>rfl
     ·cases bP:vt s W with
      |none=>rw[bP]at a;cases a
      |some p=>rw[bP]at a;cases a;rfl
  refine iw (λcZ R aP=>∃o,cZ.g 3=some (.ptr j 0)/\cZ.g 4=some (.ptr (j+1) 0)/\cZ.g 5=some bi/\cZ.g 6=some (.func (.func o) [.ptr (j+1) 0] [])/\R=aQ/\bc<=aP/\(iM c=true->o=32)/\(iM c=false->qt c=true->o=34)/\(iM c=false->qt c=false->o=30)) (λaCy SE=> ?_) ?_
  ·refine(QU az.todN c).Zm ?_
   rintro ac br bL ⟨rfl,rfl,rfl⟩
   cases pD:iM c with
   |true=>
    refine cq @t4 ⟨?_⟩
    exact SE _ _ _ ⟨32,a6 t3,a6 t4,a6 t5,bt,rfl,Zo,λ_=>rfl,(λa=>absurd a (by simp[pD])),(λa=>absurd a (by simp[pD]))⟩
   |false=>
    refine cq @t4 ⟨?_⟩
    refine(δ az.todN c).Zm ?_
    rintro ac br bL ⟨rfl,rfl,rfl⟩
    cases x6:qt c with
    |true=>
     refine cq @t4 ⟨?_⟩
     exact SE _ _ _ ⟨34,a6 t3,a6 t4,a6 t5,bt,rfl,Zo,(λa=>absurd a (by simp[pD])),λ_ _=>rfl,(λ_ a=>absurd a (by simp[x6]))⟩
    |false=>
     refine cq @t4 ⟨?_⟩
     exact SE _ _ _ ⟨30,a6 t3,a6 t4,a6 t5,bt,rfl,Zo,(λa=>absurd a (by simp[pD])),(λ_ a=>absurd a (by simp[x6])),λ_ _=>rfl⟩
  clear t3 t4 t5
  rintro aAt br bL ⟨o,t3,t4,t5,g9,rfl,yl,bJ,b2,cF⟩
  refine cq @g9 ⟨?_⟩
  refine(rd o bJ b2 cF _ yl).Zm ?_
  clear rd bJ b2 cF g9
  rintro ac b0 cU ⟨⟨x,rfl,af⟩,dz⟩
  have jy:=dz.le
  have eu:Z X b0 j=zG [.Z 0, .Z 0] 2:=by rw[dz.ad _ Zo];exact b1
  have Bg:=hf.ad (dz.ad (j+1) Zo)
  have F6:bG X h j b0 cU:=cu.trans ⟨Zo,λe D=>dz.ad e Zo⟩
  have atk:b6 x=[.Z x.kind, .str x.text, .Z x.at_, .int .u64 x.n, .bool x.ty.b, .bool x.ty.s, .Z x.ty.w]:=rfl
  rw[atk]
  refine h4 ⟨?_⟩
  refine h4 ⟨?_⟩
  refine h4 ⟨?_⟩
  refine h4 ⟨?_⟩
  refine h4 ⟨?_⟩
  generalize j1:bp X _ cU _=b5
  have be:∀e,e<cU->Z X b5 e=Z X b0 e:=λe D=>by rw[<-j1];exact zI
  have eZ:Z X b5 cU=zG (b6 x) 7:=by rw[<-j1,bz Zo];rfl
  have eb:=eu
  rw[<-be _ Zo]at eb
  have Bh:=Bg.ad (be (j+1) Zo)
  have d1:bG X h j b5 (cU+1):=⟨Zo,λe D=>by rw[be e Zo];exact F6.ad e D⟩
  clear j1 eu
  have ke:=Bh.dF
  cases Bm:xb s W with
  |none=>
   rw[Bm]at V
   simp only[Zf]at V
   subst V
   simp only[Z4]
   refine ey @t4 @t3 @ke ⟨?_⟩
   exact⟨rfl,bG.set d1 (Zh _) aM Zo⟩
  |some e=>
   have:=af e Bm
   subst this
   rw[Bm]at V
   simp only[]at V
   obtain⟨Bo,Tx⟩:=Vu Bm
   simp only[Z6]
   simp only[Yy]
   refine ey @t4 @t3 @ke ⟨?_⟩
   generalize jw:bp X b5 cU _=cp
   have bV:∀e,e≠cU->Z X cp e=Z X b5 e:=λe D=>by rw[<-jw,aJ Zo D]
   have eW:Z X cp cU=some (.cells (dM (S.ofList (b6 x) 0 .nil) 2 [.Z (W:Int)]) 7 .own):=by rw[<-jw,bz Zo];rfl
   have mc:=Bh.ad (bV (j+1) Zo)
   have eQ:bG X h j cp (cU+1):=⟨Zo,λe D=>by rw[bV e Zo];exact d1.ad e D⟩
   have iX:=eb
   rw[<-bV _ Zo]at iX
   have eK:∀e∈cw,Z X cp e=Z X br e:=λe D=>by have:=l7 e D;rw[bV e Zo,be e Zo,dz.ad e Zo]
   clear jw eZ eb Bh d1 ke bV be Bg F6
   have cO:aV X cp (.ptr cU 1)=some (.str x.text):=by rw[bX eW];rfl
   have bw:bm .add (.Z (W:Int)) (.Z (x.text.length:Int))=some (.Z ((W+x.text.length:Nat):Int)):=by rw[eG Zo Zo];rfl
   refine tn @cO ⟨?_⟩
   refine h4 ⟨?_⟩
   refine tn @bw ⟨?_⟩
   refine h4 ⟨?_⟩
   refine h4 ⟨?_⟩
   refine gr (km (o:=1) (b:=j+1) (U:=1) (n:=2) mc.g Zo rfl Zd Zd rfl) ?_
   generalize nF:bp X cp (j+1) _=cH
   have c9:∀e,e≠j+1->Z X cH e=Z X cp e:=λe D=>by rw[<-nF,aJ Zo D]
   have asB:mW X cH (j+1) s (W+x.text.length):=⟨by rw[<-nF,bz Zo];rfl,Tx,aD,Zo⟩
   have e3:bG X h j cH (cU+1):=⟨Zo,λe D=>by rw[c9 e Zo];exact eQ.ad e D⟩
   rw[<-c9 _ Zo]at eW iX
   have gG:∀e∈cw,Z X cH e=Z X br e:=λe D=>by have:=l7 e D;rw[c9 e Zo];exact eK e D
   clear nF c9 mc eQ eK cO
   have fH:aV X cH (.ptr cU 0)=some (.Z x.kind):=by rw[bX eW];rfl
   have cO:aV X cH (.ptr cU 1)=some (.str x.text):=by rw[bX eW];rfl
   have b9:aV X cH (.ptr cU 2)=some (.Z (W:Int)):=by rw[bX eW];rfl
   have d9:aV X cH (.ptr cU 3)=some (.int .u64 x.n):=by rw[bX eW];rfl
   have fI:aV X cH (.ptr cU 4)=some (.bool x.ty.b):=by rw[bX eW];rfl
   have fA:aV X cH (.ptr cU 5)=some (.bool x.ty.s):=by rw[bX eW];rfl
   have ly:aV X cH (.ptr cU 6)=some (.Z x.ty.w):=by rw[bX eW];rfl
   refine eD @fH @cO @b9 @d9 @fI @fA (Za @ly @t5) ⟨?_⟩
   obtain⟨nV,ea,gA,gU,Tn,Jc,Di⟩:=X2 (bp X cH (cU+1+11) (zG (b6 (lL x W)) 7)) (cU+1+11+1) (cU+1+11) (lL x W) (λe D=>by have:=l7 e D;rw[aJ Zo Zo];exact gG e D) Zo (bz Zo)
   refine kl gU ?_
   have dj:∀e,e<j+2->e∉cw:=λe H K=>zC (l7 e K)
   have h8:∀e,e<j+2->Z X ea e=Z X cH e:=λe D=>by rw[Di e Zo (dj e D),aJ Zo Zo]
   have asC:=asB.ad (h8 (j+1) Zo)
   rw[<-h8 _ Zo]at iX
   have kx:bG X h j ea (cU+1+11+1+1):=⟨Zo,λe D=>by rw[h8 e Zo];exact e3.ad e D⟩
   have pB:∀e∈gA,j+2<=e/\e<cU+1+11+1+1:=λe D=>by
    rcases Jc e D with rfl|a
    ·omega
    ·have:=l7 e a;omega
   refine cq @t4 ⟨?_⟩
   refine(η az asC ah Zo Zo).Zm ?_
   rintro ac eC mK ⟨qo,hT⟩
   have wz:=hT.le
   refine⟨m,Zo,nV,aO++[lL x W],gA,_,a6 t3,a6 t4,bt,by rw[hT.ad _ Zo Zs];exact iX,qo, .inl (Tn.ad λe D=>hT.ad e (pB e D).2 (by have:=pB e D;simp;omega)),λe D=>zC (pB e D),⟨Zo,λe D=>by rw[hT.ad e Zo (by simp;omega)];exact kx.ad e D⟩,Zo, ?_,V⟩
   have:=Qt s s.length (W+x.text.length)
   simp only[ZU,ZD,ZY]
   omega
 ·have cI:=zD W s.length
  rw[Zg bx]at V
  cases V
  refine ht @t4 @dE @dF @cI @t5 ⟨?_⟩
  obtain⟨nV,b0,gA,gU,sF,uK,gl⟩:=X2 (bp X aQ (bc+10) (zG (b6 ⟨7,[],W,0,dC⟩) 7)) (bc+10+1) (bc+10) ⟨7,[],W,0,dC⟩ (λe D=>aJ Zo (zC (l7 e D))) Zo (bz Zo)
  refine kl gU ?_
  have dj:∀e,e<j+2->e∉cw:=λe H K=>zC (l7 e K)
  have eu:Z X b0 j=zG [.Z 0, .Z 0] 2:=by rw[gl _ Zo (dj _ Zo),aJ Zo Zo];exact b1
  have dz:bG X h j b0 (bc+10+1+1):=⟨Zo,λe D=>by rw[gl _ Zo (dj _ Zo),aJ Zo Zo];exact cu.ad e D⟩
  clear gU gl
  refine cq @t3 ⟨?_⟩
  have ary:∀r∈(aO++[(⟨7,[],W,0,dC⟩:Tok)]).map b6,r.length=7:=λr a=>by obtain⟨x,_,rfl⟩:=ZB.1 a;rfl
  generalize j1:bp X b0 j _=b5
  have be:∀e,e≠j->Z X b5 e=Z X b0 e:=λe D=>by rw[<-j1,aJ Zo D]
  have M6:∀e∈gA,j+2<=e/\e<bc+10+1+1:=λe D=>by
   rcases uK e D with rfl|a
   ·omega
   ·have:=l7 e a;omega
  obtain⟨bM,cR⟩:=(sF.ad (R:=b5) (λe D=>be e (zC (M6 e D)))).Ev Zd ary (by simp;omega) (P:=λe=>j<=e/\e<bc+10+1+1) (λe D=>zC (M6 e D))
  have jL:=cR.ah Zs
  exact⟨⟨nV,bM,rfl,dZ.narrow cR,jL.1,jL.2⟩,⟨Zo,λe D=>by rw[be e Zo];exact dz.ad e D⟩⟩
end
end
end Go.Proofs.YtendhgofocgngaaGreatDoor

