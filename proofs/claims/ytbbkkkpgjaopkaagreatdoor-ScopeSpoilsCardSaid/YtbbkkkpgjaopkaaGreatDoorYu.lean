/- Part of the proof of the last text; no conditions -/
import Derived.Test.YtbbkkkpgjaopkaaGreatDoorYt
set_option maxHeartbeats 8000000
set_option linter.all false
namespace Go.Proofs.YtbbkkkpgjaopkaaGreatDoor
open Go.bs Go.aQ
noncomputable section
section
variable{X:cl}{h R aX aP:M ak}{j au aM be aJ bJ:Nat}{aU:List Tok}{i:Nat}
def Sv(p:y):pB X h 23 p=aV X h p:=Zk
def Sw(p:y):pB X h 26 p=dT X h 2 p:=Zk
def akQ:dD X h .eql 20 true .nilIface .nilIface=some .zT:=Zk
def akN(q E:Int):dD X h .eql 20 true (xm q E) .nilIface=some .zF:=Zk
def Wv:∃fn c,(o X).P.funcs[18]? =some fn/\fn.body=some c:=PY (OD X)
def atU(az:dW X){E b:y}{Q:Bool->M ak->Nat->Prop}(a:Q false h j):y9 X (.func 18) ([]++[E,b]) none h j Q:=by
 refine⟨az.none _ _ rfl,Wv,Xt (OD X) ?_⟩
 show E4 X 18 [E,b] none h j Q
 rw[Uy]
 unfold OC
 show bC _ _
 refine ce @akQ ⟨?_⟩
 exact a
def atV(az:dW X){E b:Nat}{q at_:Int}{dl dx:M y}{Q:Bool->M ak->Nat->Prop}(aI:(o X).aY<=E)(lh:(o X).aY<=b)(Ig:E≠b)(QK:E<j)(Im:b<j)(iQ:Z X h E=some (.cells dl 1 .own))(qj:Z X h b=some (.cells dx 2 .own))
 (a:∀R aS,j<=aS->aV X R (.ptr E 0)=some .cN->dT X R 2 (.ptr b 0)=some (.agg [.Z q, .Z at_])->(∀e,e<j->e≠E->e≠b->Z X R e=Z X h e)->Q true R aS):y9 X (.func 18) ([]++[.ptr E 0, .ptr b 0]) (some (xm q at_)) h j Q:=by
 refine⟨az.none _ _ rfl,Wv,Xt (OD X) ?_⟩
 show E4 X 18 [.ptr E 0, .ptr b 0] (some (xm q at_)) h j Q
 rw[Uy]
 unfold OC
 show bC _ _
 have ai2:KK 26 (.agg [.Z 0, .Z 0]) true (xm q at_)=some (.tuple [.agg [.Z q, .Z at_], .zT]):=w4 _ _ _
 have S1:∀(I:dc) (n:Nat),(Tl I).g n=I.g n:=λ_ _=>rfl
 refine eP @akN @ai2 @S1 ⟨?_⟩
 generalize eN:bl X _ j _=aX
 have g1:Z X aX j=zI [.Z q, .Z at_] 2:=by rw[<-eN,bn Zo];rfl
 have H:∀e,e<j->Z X aX e=Z X h e:=λe B=>by rw[<-eN];exact zK
 rw[<-H E QK]at iQ
 rw[<-H b Im]at qj
 clear eN
 refine dq (bU g1) @S1 ⟨?_⟩
 refine j0 (by simp[y.same,qE,ry]) ?_
 generalize dN:bl X aX E _=aP
 have b5:Z X aP E=some (.cells (d3 dl 0 [.cN]) 1 .own):=by rw[<-dN,bn aI];rfl
 have K:∀e,e≠E->Z X aP e=Z X aX e:=λe B=>by rw[<-dN,aL aI B]
 rw[<-K b Zo]at qj
 clear dN
 refine tf @S1 ⟨?_⟩
 refine gi (jJ (q:=2) (b:=b) (W:=0) (n:=2) qj lh rfl Zd Zd rfl) ?_
 show Q true _ _
 refine a _ _ Zo ?_ ?_ (λe B aqb gh=> ?_)
 ·rw[bU (by rw[aL lh Ig];exact b5),pt];rfl
 ·rw[tD,bU (bn lh),bU (bn lh),pt,pt];rfl
 ·rw[aL lh gh,K e aqb,H e B]
def at6{ah:bQ}{I:dc}{p ai v w:y}(pM:I.bb=[])(K:I.g 2=some p)(am:I.g 3=some ai)(dv:aV X h p=some v)(cD:dT X h 2 ai=some w)(a:ah (.tuple [v,w]) h j):Gt X ah I h j:=by
 unfold Gt
 rw[pM]
 show cg (I.g 2) (λp=>av (pB X h 23 p) λv=>cg (I.g 3) λp=>av (pB X h 26 p) λw=>ah (.tuple [v,w]) h j)
 rw[K,am]
 refine rt ?_
 rw[Sv,dv]
 refine ru ?_
 refine rt ?_
 rw[Sw,cD]
 exact ru a
def at7{ah:bQ}{I:dc}{p ai v w E b:y}(az:dW X)(pM:I.bb=[⟨.fn (.func 18) [E,b],[]⟩])(K:I.g 2=some p)(am:I.g 3=some ai)(dv:aV X h p=some v)(cD:dT X h 2 ai=some w)(a:ah (.tuple [v,w]) h j):Gt X ah I h j:=by
 unfold Gt
 rw[pM]
 show y9 X (.func 18) ([]++[E,b]) none h j λ_ h j=>pj X [.cell 2 23, .cell 3 26] ah I [] h j
 refine atU az ?_
 show cg (I.g 2) (λp=>av (pB X h 23 p) λv=>cg (I.g 3) λp=>av (pB X h 26 p) λw=>ah (.tuple [v,w]) h j)
 rw[K,am]
 refine rt ?_
 rw[Sv,dv]
 refine ru ?_
 refine rt ?_
 rw[Sw,cD]
 exact ru a
def adg{ah ax:bQ}{I:dc}{E b:Nat}{q at_:Int}{dl dx:M y}(az:dW X)(pM:I.bb=[⟨.fn (.func 18) [.ptr E 0, .ptr b 0],[]⟩])(K:I.g 2=some (.ptr E 0))(am:I.g 3=some (.ptr b 0))
 (aI:(o X).aY<=E)(lh:(o X).aY<=b)(Ig:E≠b)(QK:E<j)(Im:b<j)(iQ:Z X h E=some (.cells dl 1 .own))(qj:Z X h b=some (.cells dx 2 .own))
 (a:∀R aS,j<=aS->(∀e,e<j->e≠E->e≠b->Z X R e=Z X h e)->ah (.tuple [.cN, .agg [.Z q, .Z at_]]) R aS):JD X ah ax I (xm q at_) h j:=by
 unfold JD
 rw[pM]
 show y9 X (.func 18) ([]++[.ptr E 0, .ptr b 0]) (some (xm q at_)) h j λb h j=>bH b (pj X [.cell 2 23, .cell 3 26] ah I [] h j) _
 refine atV az aI lh Ig QK Im iQ qj (λR aS fa dv cD aG=> ?_)
 show cg (I.g 2) (λp=>av (pB X R 23 p) λv=>cg (I.g 3) λp=>av (pB X R 26 p) λw=>ah (.tuple [v,w]) R aS)
 rw[K,am]
 refine rt ?_
 rw[Sv,dv]
 refine ru ?_
 refine rt ?_
 rw[Sw,cD]
 exact ru (a R aS fa aG)
def aj5{fn:Fn}{first cap w3:List y}{I:dc}{ah:dc->Prop}(a:ah (BE I ⟨.fn fn cap,first++w3⟩)):KX (.func fn first cap) w3 I ah:=a
def yh(s:ba)(n:Nat):Option (Except (Int×Int) (List Go.aQ.Node)):=match pr s (s.length+1) [] (n2 s s.length 0)with
 |none=>none
 |some (.error E)=>some (.error (20,E))
 |some (.ok aU)=>match nodes n [] aU with
  |none=>none
  |some (.error E)=>some (.error (21,E))
  |some (.ok (an,_))=>match pd an with
   |some (q,E)=>some (.error (q,E))
   |none=>some (.ok an)
def T4(X:cl)(j:Nat)(r:Except (Int×Int) (List Go.aQ.Node))(ab:y)(R:M ak)(au:Nat):Prop:=match r with
 | .error (q,E)=>ab= .tuple [.cN, .agg [.Z q, .Z E]]
 | .ok an=>∃v,ab= .tuple [v, .agg [.Z 0, .Z 0]]/\rU X R (ei j au) an v
def Hq(s:ba):∀(n i:Nat),i<=s.length->n2 s n i<=s.length:=by
 intro n
 induction n with
 |zero=>intro i a;exact a
 |succ n aj=>
  intro i a
  rw[n2]
  split
  ·exact a
  ·rename_i c aA
   have af:=(Zb.1 aA).1
   split
   ·exact aj _ Zo
   ·split
    ·have:=El (λc=>decide (c≠10)) (s.drop i)
     rw[Ye]at this
     exact aj _ Zo
    ·exact a
def aes(s:ba):∀(n:Nat) (aU:List Tok) (i:Nat) (k3:List Tok),aU.length<=i->i<=s.length->pr s n aU i=some (.ok k3)->k3.length<=s.length+1:=by
 intro n
 induction n with
 |zero=>intro aU i k3 _ _ a;cases a
 |succ n aj=>
  intro aU i k3 H K a
  rw[pr]at a
  split at a
  ·split at a
   ·cases a
   ·rename_i x af
    obtain⟨bS,ck⟩:=TI af
    have cM:=O7 s s.length (i+x.text.length)
    exact aj _ _ _ Zx (Hq s _ _ ck) a
  ·cases a
   simp;omega
def atg(az:f5 X)(c2:qa X)(dY:mY X){s:ba}{n:Nat}(lY:n<=170000)(aE:s.length<=65536)(al:∀c∈s,c<256)(aI:(o X).aY<=j){a0:y}(aB:fM a0=some (.Z (s.length:Int)))(pL:∀R aS,bp X h j R aS->s9 X R a0=some (.str s))
 {r:Except (Int×Int) (List Go.aQ.Node)}(V:yh s n=some r):
 a1 X 5 [a0] h j (λab R au=>T4 X j r ab R au/\bp X h j R au) (λ_ _ _=>False):=by
 refine KT (ag3 X) (az.none _ _ rfl) ?_
 rw[ag4]
 unfold UU
 refine c7 ⟨?_⟩
 refine e8 (λaX=>Z X aX j=zI [.cN] 1/\Z X aX (j+1)=zI [.Z 0, .Z 0] 2/\bp X h j aX (j+1+1)) ⟨by simp(disch:=omega) only[aL,bn]<;>rfl,by rw[bn Zo];rfl,dM⟩ ?_
 rintro aX ⟨g1,b5,bY⟩
 unfold yh at V
 obtain⟨JN,IP⟩:∃JN,pr s (s.length+1) [] (n2 s s.length 0)=some JN:=by
  cases a:pr s (s.length+1) [] (n2 s s.length 0)with
  |none=>rw[a]at V;cases V
  |some JN=>exact⟨JN,rfl⟩
 rw[IP]at V
 refine(aiN az c2 aE al Zo aB (λR aS a=>pL R aS (bY.trans a)) IP).Zm ?_
 rintro ab aP be ⟨AM,b6⟩
 have f1:=b6.le
 have cR:Z X aP j=zI [.cN] 1:=by rw[b6.ad _ Zo];exact g1
 have ep:Z X aP (j+1)=zI [.Z 0, .Z 0] 2:=by rw[b6.ad _ Zo];exact b5
 have mB:=bY.trans b6
 clear g1 b5
 cases JN with
 |error E=>
  simp only[Zc]at V
  subst V
  simp only[VR]at AM
  subst AM
  have Pv:decide ((20:Int)≠0)=true:=rfl
  refine ce @Pv ⟨?_⟩
  generalize fE:bl X aP (j+1) _=bf
  have fw:Z X bf (j+1)=zI [.Z 20, .Z E] 2:=by rw[<-fE,bn Zo];rfl
  have am:∀e,e≠j+1->Z X bf e=Z X aP e:=λe B=>by rw[<-fE,aL Zo B]
  rw[<-am _ Zo]at cR
  have cq:bp X h j bf be:=⟨Zo,λe B=>by rw[am e Zo];exact mB.ad e B⟩
  clear fE am ep
  refine gi (jJ (q:=1) (b:=j) (W:=0) (n:=1) cR aI rfl Zd Zd rfl) ?_
  generalize iC:bl X bf j _=bT
  have dU:Z X bT j=some (.cells (d3 (M.ofList [.cN] 0 .nil) 0 [.cN]) 1 .own):=by rw[<-iC,bn aI];rfl
  have aC:∀e,e≠j->Z X bT e=Z X bf e:=λe B=>by rw[<-iC,aL aI B]
  rw[<-aC _ Zo]at fw
  have dA:bp X h j bT be:=⟨Zo,λe B=>by rw[aC e Zo];exact cq.ad e B⟩
  clear iC aC cR cq
  refine tf (bU fw) ⟨?_⟩
  refine j0 (by simp[y.same,qE,ry]) ?_
  refine gi (jJ (q:=2) (b:=j+1) (W:=0) (n:=2) fw Zo rfl Zd Zd rfl) ?_
  refine at6 (v:= .cN) (w:= .agg [.Z 20, .Z E]) rfl (ho) (ho) ?_ ?_ ⟨rfl,bp.set dA Zo aI Zo⟩
  ·rw[bU (by rw[aL Zo Zo];exact dU),pt];rfl
  ·rw[tD,bU (bn Zo),bU (bn Zo),pt,pt];rfl
 |ok aU=>
  obtain⟨ao,bJ,rfl,c3,aw3,aw4⟩:=AM
  simp only[]at V
  have Pv:decide ((0:Int)≠0)=false:=rfl
  refine ce @Pv ⟨?_⟩
  generalize fE:bl X aP (j+1) _=bf
  have fw:Z X bf (j+1)=zI [.Z 0, .Z 0] 2:=by rw[<-fE,bn Zo];rfl
  have am:∀e,e≠j+1->Z X bf e=Z X aP e:=λe B=>by rw[<-fE,aL Zo B]
  rw[<-am _ Zo]at cR
  have cq:bp X h j bf be:=⟨Zo,λe B=>by rw[am e Zo];exact mB.ad e B⟩
  have api:=c3.ad (R:=bf) (λe B=>by subst B;exact am e Zo)
  clear fE am ep
  refine aj5 ?_
  obtain⟨bB,cp,fj⟩:=iG c3.len
  refine c7 ⟨?_⟩
  have q0:fe [.aW, .Z 0] [(0,1,ao)]=some (.agg [ao, .Z 0]):=by
   simp[fe,tc,td,bB,nk]
  refine gi q0 ?_
  refine c7 ⟨?_⟩
  generalize nC:BE _ _=EB
  have lG:EB.bb=[⟨.fn (.func 18) [.ptr j 0, .ptr (j+1) 0],[]⟩]:=by rw[<-nC];rfl
  have eR:EB.g 2=some (.ptr j 0):=by rw[<-nC];rfl
  have t3:EB.g 3=some (.ptr (j+1) 0):=by rw[<-nC];rfl
  have WS:∀k,sx 2 k=false->(hT k EB).g 2=some (.ptr j 0):=λk a=>by simp[vA,eR,a]
  have WT:∀k,sx 3 k=false->(hT k EB).g 3=some (.ptr (j+1) 0):=λk a=>by simp[vA,t3,a]
  have WM:∀k,(hT k EB).bb=[⟨.fn (.func 18) [.ptr j 0, .ptr (j+1) 0],[]⟩]:=λk=>lG
  clear nC
  refine e8 (λbT=>Z X bT be=zI [ao, .Z ((0:Nat):Int)] 2/\bp X bf be bT (be+1)) ⟨by rw[bn Zo];rfl,dM⟩ ?_
  rintro bT ⟨dU,xv⟩
  have eO:=aes s _ _ _ _ Zs (Hq s _ _ Zo) IP
  have ao2:aQ X bT be bJ aU 0:=⟨⟨_,ao,dU,rfl,rfl,api.ad λe B=>by subst B;exact xv.ad e Zo⟩,Zo⟩
  have ao5:iu X bT (be+1) be bJ aU 0:=⟨Zo,Zo,Zo,Zo,Zo,ao2⟩
  obtain⟨JL,AK⟩:∃JL,nodes n [] aU=some JL:=by
   cases a:nodes n [] aU with
   |none=>rw[a]at V;cases V
   |some JL=>exact⟨JL,rfl⟩
  rw[AK]at V
  have cF:Z X bT j=zI [.cN] 1:=by rw[xv.ad _ Zo];exact cR
  have cH:Z X bT (j+1)=zI [.Z 0, .Z 0] 2:=by rw[xv.ad _ Zo];exact fw
  refine(atA az.todW dY lY Zo ao5 (r:=JL) AK).mono ?_ ?_
  ·rintro v bZ ct ⟨an,i5,rfl,nE,_,dV⟩
   have hQ:=dV.le
   simp only[]at V
   have d7:Z X bZ j=zI [.cN] 1:=by rw[dV.ad _ Zo Zx];exact cF
   have fU:Z X bZ (j+1)=zI [.Z 0, .Z 0] 2:=by rw[dV.ad _ Zo Zx];exact cH
   have aaQ:∀e,e<j->Z X bZ e=Z X h e:=λe B=>by rw[dV.ad e Zo Zx,xv.ad e Zo];exact cq.ad e B
   obtain⟨w8,_,_,_,rfl,σ,_⟩:=nE.prog
   have aw5:=σ.1
   have aw6:=σ.2
   refine tf @eR ⟨?_⟩
   refine gi (jJ (q:=1) (b:=j) (W:=0) (n:=1) d7 aI rfl Zd Zd rfl) ?_
   generalize hX:bl X bZ j _=b9
   have eu:Z X b9 j=some (.cells (d3 (M.ofList [.cN] 0 .nil) 0 [.ptr w8 0]) 1 .own):=by rw[<-hX,bn aI];rfl
   have b1:∀e,e≠j->Z X b9 e=Z X bZ e:=λe B=>by rw[<-hX,aL aI B]
   clear hX
   have kz:aV X b9 (.ptr j 0)=some (.ptr w8 0):=by rw[bU eu,pt];rfl
   refine tf @eR ⟨?_⟩
   refine tf @kz ⟨?_⟩
   have ao6:=nE.ad (R:=b9) (Q:=ei (be+1) ct) (λe B=>b1 e (zE B.1)) (λ_ a=>a)
   have mv:Z X b9 (j+1)=zI [.Z 0, .Z 0] 2:=by rw[b1 _ Zo];exact fU
   refine(arH (j:=ct) (h:=b9) az.todW Zo ao6.prog (λe B=>B.2)).mono ?_ ?_
   ·rintro J5 cm en ⟨ka,rfl,e6⟩
    have re:=e6.le
    rw[ka]at V
    simp only[Zc]at V
    subst V
    have hf:Z X cm j=some (.cells (d3 (M.ofList [.cN] 0 .nil) 0 [.ptr w8 0]) 1 .own):=by rw[e6.ad _ Zo];exact eu
    have BH:Z X cm (j+1)=zI [.Z 0, .Z 0] 2:=by rw[e6.ad _ Zo];exact mv
    have kA:aV X cm (.ptr j 0)=some (.ptr w8 0):=by rw[bU hf,pt];rfl
    refine tf @eR ⟨?_⟩
    refine tf @kA ⟨?_⟩
    refine hU ⟨?_⟩
    refine tf @eR ⟨?_⟩
    refine gi (jJ (q:=1) (b:=j) (W:=0) (n:=1) hf aI rfl Zd Zd rfl) ?_
    generalize qo:bl X cm j _=dk
    have nz:Z X dk j=some (.cells (d3 (d3 (M.ofList [.cN] 0 .nil) 0 [.ptr w8 0]) 0 [.ptr w8 0]) 1 .own):=by rw[<-qo,bn aI];rfl
    have ev:∀e,e≠j->Z X dk e=Z X cm e:=λe B=>by rw[<-qo,aL aI B]
    rw[<-ev _ Zo]at BH
    clear qo
    refine tf @t3 ⟨?_⟩
    refine gi (jJ (q:=2) (b:=j+1) (W:=0) (n:=2) BH Zo rfl Zd Zd rfl) ?_
    have qv:∀cK e,e≠j->e≠j+1->e<ct->Z X (bl X dk (j+1) cK) e=Z X bZ e:=λcK e H K am=>by
     rw[aL Zo K,ev e H,e6.ad e am,b1 e H]
    refine at7 (v:= .ptr w8 0) (w:= .agg [.Z 0, .Z 0]) az.todW lG eR t3 ?_ ?_ ⟨⟨.ptr w8 0,rfl,nE.ad (λe B=>qv _ e (zE B.1) (zE B.1) B.2) (λe B=>⟨zE B.1,zE B.2⟩)⟩,⟨Zo,λe B=>by rw[qv _ e Zo Zo Zo];exact aaQ e B⟩⟩
    ·rw[bU (by rw[aL Zo Zo];exact nz),pt];rfl
    ·rw[tD,bU (bn Zo),bU (bn Zo),pt,pt];rfl
   ·rintro ab cm en ⟨q,E,ka,rfl,e6⟩
    have re:=e6.le
    rw[ka]at V
    simp only[Zc]at V
    subst V
    refine adg (dl:=d3 (M.ofList [.cN] 0 .nil) 0 [.ptr w8 0]) (dx:=M.ofList [.Z 0, .Z 0] 0 .nil) az.todW (WM _) (WS _ rfl) (WT _ rfl) aI Zo Zo Zo Zo ?_ ?_ (λR aS fa aG=>⟨rfl,Zo,λe B=> ?_⟩)
    ·rw[e6.ad _ Zo];exact eu
    ·rw[e6.ad _ Zo];exact mv
    ·rw[aG e Zo Zo Zo,e6.ad e Zo,b1 e Zo];exact aaQ e B
  ·rintro ab bZ ct ⟨E,rfl,rfl,dV⟩
   have hQ:=dV.le
   simp only[Zc]at V
   subst V
   refine adg (dl:=M.ofList [.cN] 0 .nil) (dx:=M.ofList [.Z 0, .Z 0] 0 .nil) az.todW (WM _) (WS _ rfl) (WT _ rfl) aI Zo Zo Zo Zo ?_ ?_ (λR aS fa aG=>⟨rfl,Zo,λe B=> ?_⟩)
   ·rw[dV.ad _ Zo Zx];exact cF
   ·rw[dV.ad _ Zo Zx];exact cH
   ·rw[aG e Zo Zo Zo,dV.ad e Zo Zx,xv.ad e Zo];exact cq.ad e B
end
end
end Go.Proofs.YtbbkkkpgjaopkaaGreatDoor

namespace Go.aQ
def hc:List Tok->Prop
 |[]=>False
 |x::k=>x.kind=7/\x.text=[]\/hc k
def hc.pq{x:Tok}{k:List Tok}(a:hc (x::k))(af:x.kind≠7):hc k:=a.resolve_left λq=>af q.1
def d0{α:Type}(b:Nat)(Q:α->Prop)(x:fY α):Prop:=∃r,x=some r/\∀E cb,r= .ok (E,cb)->hc cb/\cb.length<b/\Q E
def qb(D:bL):Prop:=D.kind=4->D.args≠[]
def d0.mono{α:Type}{b cQ:Nat}{Q qT:α->Prop}{x:fY α}(a:d0 b Q x)(al:b<=cQ)(bG:∀E,Q E->qT E):d0 cQ qT x:=by
 obtain⟨r,H,K⟩:=a
 exact⟨r,H,λE cb D=>by obtain⟨bS,ck,cM⟩:=K E cb D;exact⟨bS,Zo,bG E cM⟩⟩
def d0.ok{α:Type}{b:Nat}{Q:α->Prop}{E:α}{k:List Tok}(H:hc k)(K:k.length<b)(am:Q E):d0 b Q (aQ.ok E k):=⟨_,rfl,λgd cb D=>by cases D;exact⟨H,K,am⟩⟩
def d0.bad{α:Type}{b:Nat}{Q:α->Prop}(E:Int):d0 b Q (aQ.bad E:fY α):=⟨_,rfl,λgd cb D=>by cases D⟩
def d0.andThen{α eH:Type}{b cQ:Nat}{Q:α->Prop}{qT:eH->Prop}{x:fY α}{f:α->List Tok->fY eH}(a:d0 b Q x)(q:∀E cb,hc cb->cb.length<b->Q E->d0 cQ qT (f E cb)):d0 cQ qT (aQ.andThen x f):=by
 obtain⟨r,rfl,K⟩:=a
 cases r with
 |error E=>exact⟨_,rfl,λgd cb D=>by cases D⟩
 |ok p=>
  obtain⟨E,cb⟩:=p
  obtain⟨bS,ck,cM⟩:=K E cb rfl
  exact q E cb bS ck cM
def Th{x:Tok}{s:ba}(a:gX x s=true):x.kind≠7:=by
 intro D;simp[gX,D]at a
def nQ{s:ba}{k:List Tok}(a:hc k):d0 k.length (λ_=>True) (eo s k):=by
 cases k with
 |nil=>exact a.elim
 |cons x k=>
  simp only[eo]
  split
  ·rename_i aE;exact d0.ok (a.pq (Th aE)) Zs trivial
  ·exact d0.bad _
def uV{q:Int}(aG:q≠7){k:List Tok}(a:hc k):d0 k.length (λx:Tok=>True) (iH q k):=by
 cases k with
 |nil=>exact a.elim
 |cons x k=>
  simp only[iH]
  split
  ·rename_i aE;exact d0.ok (a.pq Zo) Zs trivial
  ·exact d0.bad _
def p6{eH:Type}{s:ba}{k:List Tok}{f:Option Tok->List Tok->fY eH}{b:Nat}{Q:eH->Prop}(a:hc k)(H:∀x cb,hc cb->cb.length+1=k.length->d0 b Q (f (some x) cb))(K:d0 b Q (f none k)):d0 b Q (h8 s k f):=by
 cases k with
 |nil=>exact a.elim
 |cons x k=>
  unfold h8 l6
  by_cases aE:gX x s=true
  ·simp only[aE,ZE];exact H x k (a.pq (Th aE)) Zs
  ·simp only[aE,ZD];exact K
def Wp{k:List Tok}(a:hc k):∀os:List (ba×Int),∃D cb,oJ os k=some (D,cb)/\(D=none/\cb=k\/∃x,D=some x/\hc cb/\cb.length+1=k.length):=by
 cases k with
 |nil=>exact a.elim
 |cons x k=>
  intro os
  induction os with
  |nil=>exact⟨_,_,rfl, .inl ⟨rfl,rfl⟩⟩
  |cons W os aj=>
   obtain⟨s,q⟩:=W
   unfold oJ l6
   by_cases aE:gX x s=true
   ·simp only[aE,ZE];exact⟨_,_,rfl, .inr ⟨_,rfl,a.pq (Th aE),Zs⟩⟩
   ·simp only[aE,ZD]
    exact aj
structure aeX(n:Nat):Prop where
 level:∀q k,q<=5->hc k->13*k.length+9-q<=n->d0 k.length qb (level n q k)
 pc:∀q D k,q<=4->hc k->qb D->13*k.length+1<=n->d0 (k.length+1) qb (pc n q D k)
 shift:∀k,hc k->13*k.length+3<=n->d0 k.length qb (shift n k)
 pm:∀D k,hc k->qb D->13*k.length+1<=n->d0 (k.length+1) qb (pm n D k)
 pn:∀q x D k,q≠4->hc k->13*k.length+1<=n->d0 k.length qb (pn n q x D k)
 tQ:∀k,hc k->13*k.length+2<=n->d0 k.length qb (wu n k)
 nr:∀D k,hc k->qb D->13*k.length+1<=n->d0 (k.length+1) qb (nr n D k)
 part:∀k,hc k->13*k.length+1<=n->d0 k.length qb (part n k)
 list:∀k,hc k->13*k.length+12<=n->d0 k.length (λ_=>True) (list n k)
 pe:∀ca k,hc k->13*k.length+1<=n->d0 k.length (λ_=>True) (pe n ca k)
 lS:∀k,hc k->13*k.length+10<=n->d0 k.length qb (lS n k)
 arrow:∀k,hc k->13*k.length+11<=n->d0 k.length qb (arrow n k)
def t6{D:bL}(a:D.kind≠4):qb D:=λq=>absurd q a
def TR{D:bL}(a:D.args≠[]):qb D:=λ_=>a
def hc.pos{k:List Tok}(a:hc k):0<k.length:=by cases k with
 |nil=>exact a.elim
 |cons x k=>simp
def aiL:∀n,aeX n:=by
 intro n
 induction n with
 |zero=>constructor<;>(intros;rename_i a _ _;omega)
 |succ n aj=>
  constructor
  case level=>
   intro q k aG aB aI
   have:=aB.pos
   rw[level]
   split
   ·exact aj.shift k aB Zo
   ·refine(aj.level (q+1) k Zo aB Zo).andThen λD cb H K am=> ?_
    exact(aj.pc q D cb Zo H am Zo).mono Zo λ_ a=>a
  case pc=>
   intro q D k aG aB bt aI
   have:=aB.pos
   rw[pc]
   obtain⟨W,cb,H,K⟩:=Wp aB (ar q)
   rw[H]
   rcases K with ⟨rfl,rfl⟩|⟨x,rfl,am,aC⟩
   ·exact d0.ok aB Zo bt
   ·simp only[]
    refine(aj.level (q+1) cb Zo am Zo).andThen λr cD bS ck cM=> ?_
    split
    ·exact d0.ok bS Zo (TR (by simp[two,bL.args]))
    ·exact(aj.pc q _ cD aG bS (TR (by simp[two,bL.args])) Zo).mono Zo λ_ a=>a
  case shift=>
   intro k aB aI
   have:=aB.pos
   rw[shift]
   refine(aj.tQ k aB Zo).andThen λD cb H K am=> ?_
   exact(aj.pm D cb H am Zo).mono Zo λ_ a=>a
  case pm=>
   intro D k aB bt aI
   have:=aB.pos
   rw[pm]
   refine p6 aB (λx cb H K=>(aj.pn 19 x D cb Zd H Zo).mono Zo λ_ a=>a) ?_
   refine p6 aB (λx cb H K=>(aj.pn 20 x D cb Zd H Zo).mono Zo λ_ a=>a) ?_
   exact d0.ok aB Zo bt
  case pn=>
   intro q x D k aG aB aI
   have:=aB.pos
   rw[pn]
   refine(uV Zd aB).andThen λm cb H K am=> ?_
   split
   ·exact d0.bad _
   ·exact(aj.pm _ cb H (t6 (by simpa[bL.kind]using aG)) Zo).mono Zo λ_ a=>a
  case tQ=>
   intro k aB aI
   have:=aB.pos
   rw[wu]
   obtain⟨W,cb,H,K⟩:=Wp aB yi
   rw[H]
   rcases K with ⟨rfl,rfl⟩|⟨x,rfl,am,aC⟩
   ·simp only[]
    refine(aj.part cb aB Zo).andThen λD cD bS ck cM=> ?_
    exact(aj.nr D cD bS cM Zo).mono Zo λ_ a=>a
   ·simp only[]
    refine(aj.tQ cb am Zo).andThen λD cD bS ck cM=> ?_
    exact d0.ok bS Zo (TR (by simp[bL.args]))
  case nr=>
   intro D k aB bt aI
   have:=aB.pos
   rw[nr]
   refine p6 aB (λx cb H K=> ?_) (d0.ok aB Zo bt)
   have:=H.pos
   refine p6 H (λe cD bS ck=> ?_) ?_
   ·refine(uV Zd bS).andThen λm ec m1 fp il=> ?_
    exact(aj.nr _ ec m1 (t6 (by simp[bL.kind])) Zo).mono Zo λ_ a=>a
   ·refine(uV Zd H).andThen λm ec m1 fp il=> ?_
    exact(aj.nr _ ec m1 (t6 (by simp[bL.kind])) Zo).mono Zo λ_ a=>a
  case list=>
   intro k aB aI
   have:=aB.pos
   rw[list]
   refine p6 aB (λx cb H K=>d0.ok H Zo trivial) ?_
   refine(aj.arrow k aB Zo).andThen λD cD bS ck cM=> ?_
   exact(aj.pe _ cD bS Zo).mono Zo λ_ a=>a
  case pe=>
   intro ca k aB aI
   have:=aB.pos
   rw[pe]
   refine p6 aB (λx cb H K=> ?_) ?_
   ·refine(aj.arrow cb H Zo).andThen λD cD bS ck cM=> ?_
    exact(aj.pe _ cD bS Zo).mono Zo λ_ a=>a
   ·exact(nQ aB).andThen λ_ cb H K _=>d0.ok H Zo trivial
  case lS=>
   intro k aB aI
   have:=aB.pos
   rw[lS]
   refine(aj.level 0 k Zo aB Zo).andThen λD cD bS ck cM=> ?_
   refine p6 bS (λx cb H K=> ?_) (d0.ok bS Zo cM)
   have AF:tH D≠none:=by
    unfold tH
    split
    ·simp
    ·split
     ·rename_i aC
      have:=cM aC
      cases aD:D.args with
      |nil=>exact absurd aD this
      |cons E k=>simp
     ·simp
   simp only[]
   split
   ·rename_i a;exact absurd a AF
   ·refine(aj.lS cb H Zo).andThen λr ec m1 fp il=> ?_
    exact d0.ok m1 Zo (t6 (by simp[bL.kind]))
   ·exact d0.bad _
  case arrow=>
   intro k aB aI
   have:=aB.pos
   rw[arrow]
   refine(aj.lS k aB Zo).andThen λD cD bS ck cM=> ?_
   refine p6 bS (λx cb H K=> ?_) (d0.ok bS Zo cM)
   refine(aj.arrow cb H Zo).andThen λr ec m1 fp il=> ?_
   exact d0.ok m1 Zo (t6 (by simp[bL.kind]))
  case part=>
   intro k aB aI
   cases k with
   |nil=>exact aB.elim
   |cons x k=>
   simp only[Zz]at aI
   rw[part]
   have eO:(x::k).length=k.length+1:=rfl
   rw[eO]
   by_cases ie:x.kind=5
   ·rw[Zu ie]
    exact d0.ok (aB.pq Zo) Zo (t6 (by simp[bL.kind]))
   rw[Zg ie]
   split
   ·rename_i a
    have:x.kind=2:=by simp at a;exact a.1
    exact d0.ok (aB.pq Zo) Zo (t6 (by simp[bL.kind]))
   by_cases dl:x.kind=1
   ·rw[Zu dl]
    have hg:=aB.pq Zo
    refine p6 hg (λe cD H K=> ?_) (d0.ok hg Zo (t6 (by simp[bL.kind])))
    refine(aj.list cD H Zo).andThen λca ec m1 fp il=> ?_
    exact d0.ok m1 Zo (t6 (by simp[bL.kind]))
   rw[Zg dl]
   by_cases gD:x.kind=3
   ·rw[Zu gD]
    have hg:=aB.pq Zo
    refine(nQ hg).andThen λ_ cD H K _=> ?_
    refine(aj.arrow cD H Zo).andThen λD ec m1 fp il=> ?_
    refine(nQ m1).andThen λ_ fl e3 g9 _=> ?_
    exact d0.ok e3 Zo (t6 (by simp[bL.kind]))
   rw[Zg gD]
   split
   ·rename_i a
    have:x.kind=6:=by simp at a;exact a.1
    have hg:=aB.pq Zo
    refine(aj.arrow k hg Zo).andThen λD ec m1 fp il=> ?_
    refine(nQ m1).andThen λ_ fl e3 g9 _=> ?_
    exact d0.ok e3 Zo il
   split
   ·rename_i a
    have:x.kind=2:=by simp at a;exact a.1
    have hg:=aB.pq Zo
    refine(aj.arrow k hg Zo).andThen λD ec m1 fp il=> ?_
    refine(nQ m1).andThen λ_ fl e3 g9 _=> ?_
    refine(aj.arrow fl e3 Zo).andThen λcp fG cF cH d7=> ?_
    refine(nQ cF).andThen λ_ kz eA eU _=> ?_
    refine(aj.arrow kz eA Zo).andThen λfj kA kH lF Gw=> ?_
    exact d0.ok kH Zo (t6 (by simp[bL.kind]))
   split
   ·rename_i a
    have:x.kind=2:=by simp at a;exact a.1
    have hg:=aB.pq Zo
    refine(uV Zd hg).andThen λc cD H K _=> ?_
    refine(aj.part cD H Zo).andThen λD ec m1 fp il=> ?_
    refine(aj.part ec m1 Zo).andThen λcp fl e3 g9 ws=> ?_
    exact d0.ok e3 Zo (t6 (by simp[bL.kind]))
   ·exact d0.bad _
def acL:∀(n:Nat) (ca k:List Tok),hc k->k.length<=n->d0 k.length (λ_=>True) (rm n ca k):=by
 intro n
 induction n with
 |zero=>intro ca k a aI;have:=a.pos;omega
 |succ n aj=>
  intro ca k a aI
  rw[rm]
  refine(uV Zd a).andThen λx cD H K _=> ?_
  refine p6 H (λe ec bS ck=>(aj _ ec bS Zo).mono Zo λ_ a=>a) (d0.ok H Zo trivial)
def aj1{w:Option Tok}{k:List Tok}(a:hc k):d0 (k.length+1) (λ_=>True) (y8 w k):=by
 cases w with
 |none=>exact d0.ok a Zo trivial
 |some w=>
  simp only[y8]
  refine p6 a (λe cD bS ck=> ?_) ?_
  ·exact(uV Zd bS).andThen λx ec m1 fp _=>d0.ok m1 Zo trivial
  ·exact(uV Zd a).andThen λx ec m1 fp _=>d0.ok m1 Zo trivial
def Px:∀(n:Nat) (loc:Bool) (ds:List d4) (k:List Tok),hc k->k.length+1<=n->d0 k.length (λ_=>True) (ja n loc ds k):=by
 intro n
 induction n with
 |zero=>intro loc ds k a aI;omega
 |succ n aj=>
  intro loc ds k a aI
  rw[ja]
  refine(acL n [] k a Zo).andThen λxs cD H K _=> ?_
  unfold CD
  refine(nQ H).andThen λ_ ec bS ck _=> ?_
  refine(uV Zd bS).andThen λt fl m1 fp _=> ?_
  have fin:∀w fG,hc fG->fG.length<=fl.length->d0 k.length (λ_=>True) (andThen (y8 w fG) λr k=>xg loc (ja n loc) (ds++xs.map (pE t.ty r.1 r.2.1 r.2.2)) k):=by
   intro w fG e3 g9
   refine(aj1 e3).andThen λr kz cF cH _=> ?_
   unfold xg
   cases kz with
   |nil=>exact cF.elim
   |cons e kA=>
    simp only[ys,Zz]at cH ⊢
    split
    ·rename_i aE
     have d7:hc kA:=cF.resolve_left λq=>by rw[q.2]at aE;cases aE
     split
     ·cases kA with
      |nil=>exact d7.elim
      |cons bo oe=>
       simp only[ys]
       split
       ·exact d0.ok cF (by simp at cH ⊢;omega) trivial
       ·exact(aj _ _ (bo::oe) d7 (by simp at cH ⊢;omega)).mono (by simp at cH ⊢;omega) λ_ a=>a
     ·exact(aj _ _ kA d7 Zo).mono Zo λ_ a=>a
    ·exact d0.ok cF Zx trivial
  refine p6 m1 (λe fG e3 g9=>fin _ fG e3 Zo) (fin _ fl m1 Zo)
def akO{n:Nat}{k:List Tok}(a:hc k)(aI:13*k.length+12<=n):d0 k.length (λ_=>True) (uo n k):=by
 unfold uo
 have fin:∀(x:fY (List Tok)),d0 (k.length+1) (λ_=>True) x->d0 k.length (λ_=>True) (andThen x λxs k=>andThen (eo [61] k) λD k=>andThen (arrow n k) λr k=>andThen (eo [59] k) λ_ k=>ok (⟨xs.map Tok.text,xs.map Tok.at_,D.at_,r⟩:ee) k):=by
  intro x af
  refine af.andThen λxs cD H K _=> ?_
  refine(nQ H).andThen λ_ ec bS ck _=> ?_
  refine((aiL n).arrow ec bS Zo).andThen λD fl m1 fp _=> ?_
  exact(nQ m1).andThen λ_ fG e3 g9 _=>d0.ok e3 Zo trivial
 refine p6 a (λe cD H K=>fin _ ?_) (fin _ ?_)
 ·refine(uV Zd H).andThen λx ec bS ck _=> ?_
  refine(nQ bS).andThen λ_ fl m1 fp _=> ?_
  refine(acL n _ fl m1 Zo).andThen λxs fG e3 g9 _=> ?_
  exact(nQ e3).andThen λ_ kz cF cH _=>d0.ok cF Zo trivial
 ·exact(uV Zd a).andThen λx ec bS ck _=>d0.ok bS Zo trivial
def akS:∀(n:Nat) (b8:List ee) (k:List Tok),hc k->13*k.length+13<=n->d0 k.length (λ_=>True) (lR n b8 k):=by
 intro n
 induction n with
 |zero=>intro b8 k a aI;omega
 |succ n aj=>
  intro b8 k a aI
  rw[lR]
  refine p6 a (λe cD H K=>d0.ok H Zo trivial) ?_
  refine(akO a Zo).andThen λai cD H K _=> ?_
  exact(aj _ cD H Zo).mono Zo λ_ a=>a
def asE{n:Nat}{k:List Tok}(a:hc k)(aI:13*k.length+13<=n):d0 k.length (λ_=>True) (node n k):=by
 unfold node
 refine(nQ a).andThen λ_ cD H K _=> ?_
 refine(uV Zd H).andThen λx ec bS ck _=> ?_
 refine(nQ bS).andThen λ_ fl m1 fp _=> ?_
 have ak6:∀dg out fG,hc fG->fG.length<fl.length->d0 k.length (λ_=>True) (h8 [118,97,114] fG λe k=>andThen (match e with
  |some _=>andThen (ja n true [] k) λds k=>andThen (eo [59] k) λ_ k=>ok ds k
  |none=>ok [] k) λloc k=>
  andThen (eo [108,101,116] k) λ_ k=>andThen (lR n [] k) λb8 k=>ok (⟨x.text,x.at_,dg,out,loc,b8⟩:Node) k):=by
  intro dg out fG e3 g9
  have Xl:∀(bo:fY (List d4)),d0 (fG.length+1) (λ_=>True) bo->d0 k.length (λ_=>True) (andThen bo λloc k=>
   andThen (eo [108,101,116] k) λ_ k=>andThen (lR n [] k) λb8 k=>ok (⟨x.text,x.at_,dg,out,loc,b8⟩:Node) k):=by
   intro bo cf
   refine cf.andThen λloc kz cF cH _=> ?_
   refine(nQ cF).andThen λ_ kA eA eU _=> ?_
   refine(akS n _ kA eA Zo).andThen λb8 oe kH lF _=> ?_
   exact d0.ok kH Zo trivial
  refine p6 e3 (λe kz cF cH=>Xl _ ?_) (Xl _ (d0.ok e3 Zo trivial))
  refine(Px n _ _ kz cF Zo).andThen λds kA eA eU _=> ?_
  exact(nQ eA).andThen λ_ oe kH lF _=>d0.ok kH Zo trivial
 have Xk:∀(bo:fY (List d4)),d0 (fl.length+1) (λ_=>True) bo->d0 k.length (λ_=>True) (andThen bo λdg k=>
  andThen (eo [114,101,116,117,114,110,115] k) λ_ k=>andThen (eo [40] k) λ_ k=>andThen (ja n false [] k) λout k=>andThen (eo [41] k) λ_ k=>
  h8 [118,97,114] k λe k=>andThen (match e with
  |some _=>andThen (ja n true [] k) λds k=>andThen (eo [59] k) λ_ k=>ok ds k
  |none=>ok [] k) λloc k=>
  andThen (eo [108,101,116] k) λ_ k=>andThen (lR n [] k) λb8 k=>ok (⟨x.text,x.at_,dg,out,loc,b8⟩:Node) k):=by
  intro bo cf
  refine cf.andThen λdg fG e3 g9 _=> ?_
  refine(nQ e3).andThen λ_ kz cF cH _=> ?_
  refine(nQ cF).andThen λ_ kA eA eU _=> ?_
  refine(Px n _ _ kA eA Zo).andThen λout oe kH lF _=> ?_
  refine(nQ kH).andThen λ_ sw t1 eR _=> ?_
  exact ak6 dg out sw t1 Zo
 refine p6 m1 (λe fG e3 g9=>Xk _ (d0.ok e3 Zo trivial)) (Xk _ ?_)
 refine(Px n _ _ fl m1 Zo).andThen λds kA eA eU _=> ?_
 exact(nQ eA).andThen λ_ oe kH lF _=>d0.ok kH Zo trivial
def asG:∀(n:Nat) (an:List Node) (k:List Tok),hc k->13*k.length+14<=n->d0 k.length (λ_=>True) (nodes n an k):=by
 intro n
 induction n with
 |zero=>intro an k a aI;omega
 |succ n aj=>
  intro an k a aI
  rw[nodes]
  refine(asE a Zo).andThen λg cD H K _=> ?_
  cases cD with
  |nil=>exact H.elim
  |cons x ec=>
   simp only[]
   split
   ·exact d0.ok H Zo trivial
   ·exact(aj _ _ H Zo).mono Zo λ_ a=>a
end Go.aQ

namespace Go.Proofs.YtbbkkkpgjaopkaaGreatDoor
open Go.bs Go.aQ
def hc.snoc{x:Tok}(H:x.kind=7)(K:x.text=[]):∀k:List Tok,hc (k++[x]):=by
 intro k
 induction k with
 |nil=>exact .inl ⟨H,K⟩
 |cons e k aj=>exact .inr aj
def avG(s:ba):∀(n:Nat) (aU:List Tok) (i:Nat),i<=s.length->s.length<i+n->∃r,pr s n aU i=some r/\∀k3,r= .ok k3->hc k3:=by
 intro n
 induction n with
 |zero=>intro aU i H K;omega
 |succ n aj=>
  intro aU i H K
  rw[pr]
  split
  ·cases af:sL s i with
   |none=>exact⟨_,rfl,λk3 a=>by cases a⟩
   |some x=>
    obtain⟨bS,ck⟩:=TI af
    have cM:=O7 s s.length (i+x.text.length)
    exact aj _ _ (Hq s _ _ ck) Zo
  ·exact⟨_,rfl,λk3 a=>by cases a;exact hc.snoc rfl rfl _⟩
def ate{s:ba}(aE:s.length<=5000):∃r,yh s 170000=some r:=by
 unfold yh
 obtain⟨r,H,K⟩:=avG s (s.length+1) [] (n2 s s.length 0) (Hq s _ _ Zo) Zo
 rw[H]
 cases r with
 |error E=>exact⟨_,rfl⟩
 |ok aU=>
  simp only[]
  have eO:=aes s _ _ _ _ Zs (Hq s _ _ Zo) H
  obtain⟨r,am,_⟩:=asG 170000 [] aU (K aU rfl) Zo
  rw[am]
  cases r with
  |error E=>exact⟨_,rfl⟩
  |ok p=>
   obtain⟨an,k⟩:=p
   simp only[]
   cases pd an with
   |none=>exact⟨_,rfl⟩
   |some ai=>exact⟨_,rfl⟩
noncomputable def rv(s:ba):Except (Int×Int) (List Go.aQ.Node):=match yh s 170000 with
 |some r=>r
 |none=> .error (0,0)
def adj{s:ba}(aE:s.length<=5000):yh s 170000=some (rv s):=by
 obtain⟨r,a⟩:=ate aE
 unfold rv
 rw[a]
variable{X:cl}{h:M ak}{j:Nat}
def SQ(az:f5 X)(c2:qa X)(dY:mY X){s:ba}(aE:s.length<=5000)(al:∀c∈s,c<256)(aI:(o X).aY<=j){a0:y}(aB:fM a0=some (.Z (s.length:Int)))(pL:∀R aS,bp X h j R aS->s9 X R a0=some (.str s)):
 a1 X 5 [a0] h j (λab R au=>T4 X j (rv s) ab R au/\bp X h j R au) (λ_ _ _=>False):=
 atg az c2 dY (Zj _) Zo al aI aB pL (adj aE)
end Go.Proofs.YtbbkkkpgjaopkaaGreatDoor

namespace Go.Proofs.YtbbkkkpgjaopkaaGreatDoor
open Go.bs Go.aQ
noncomputable section
def lc(nm:ba):Nat->List Go.aQ.Node->Option Nat
 |_,[]=>none
 |q,g::k=>if g.name=nm then some q else lc nm (q+1) k
def iz(an:List Go.aQ.Node)(nm:ba):Option Nat:=lc nm 0 an
section
variable{X:cl}{h R aX aP:M ak}{j au aM be:Nat}{P:Nat->Prop}{an:List Go.aQ.Node}
def aqu(az:dW X){g:Go.aQ.Node}{row:List y}(aI:(o X).aY<=j)(bw:lr X h P g row){c:Nat}{nm:ba}(aA:c<j)(vU:aV X h (.ptr c 0)=some (.str nm)):
 a1 X 73 [.agg row, .ptr c 0] h j (λab R au=>ab= .bool (decide (g.name=nm))/\bp X h j R au) (λ_ _ _=>False):=by
 refine zL az (ahn X) ?_
 rw[aho]
 unfold Vm
 obtain⟨cW,cO,a2,dF,b4,cr,cS,fh,adX,rfl,_⟩:=bw
 refine ce @vU ⟨?_⟩
 exact⟨rfl,dM⟩
def aql(az:dW X){a2:y}{cn:Nat}{aK:List (List y)}(aI:(o X).aY<=j)(c3:et X h P cn a2 6 aK)(uD:mZ X h P an aK)(bI:∀e,P e->e<j){c:Nat}{nm:ba}(aA:c<j)(vU:aV X h (.ptr c 0)=some (.str nm)):
 a1 X 72 [a2, .func (.func 73) [] [.ptr c 0]] h j (λab R au=>ab= .Z (match iz an nm with|some q=>(q:Int)|none=> -1)/\bp X h j R au) (λ_ _ _=>False):=by
 refine zL az (ahl X) ?_
 rw[ahm]
 unfold Vl
 have vY:=uD.wide
 have er:=c3.len
 have jq:=c3.many
 rw[vY.1]at er jq
 refine ce @er ⟨?_⟩
 refine gK (λm I R aS=>∃(Y:Nat),I.g 0=some a2/\I.g 1=some (.func (.func 73) [] [.ptr c 0])/\I.g 7=some (.Z (an.length:Int))/\I.g 8=some (.Z (Y:Int))/\Y+m=an.length/\bp X h j R aS/\iz an nm=lc nm Y (an.drop Y))
  an.length ⟨0,bF,bF,bF,ho,Zo,bp.refl _ _,rfl⟩ ?_
 rintro m I aP be ⟨Y,t0,t1,fx,iX,bD,b6,bW⟩
 have f1:=b6.le
 cases m with
 |zero=>
  have d:=zF Y an.length
  rw[ZR Zo]at bW
  refine eP @iX @fx @d ⟨?_⟩
  exact⟨by rw[bW];rfl,b6⟩
 |succ m=>
  have d:=zG Y an.length
  have bB:=zJ Y
  obtain⟨g,bw⟩:=zH an Y
  have aH:an.drop Y=g::an.drop (Y+1):=by
   obtain⟨af,B⟩:=Zb.1 bw
   rw[ZA af,B]
  obtain⟨row,d2,hh⟩:=uD.get Y g bw
  have aG:=λe (B:P e)=>b6.ad e (bI e B)
  have di:=c3.g2 Y (by rw[vY.1];omega)
  have kP:=(c3.ad aG).row Zd d2
  have anC:aV X aP (.ptr c 0)=some (.str nm):=zP (b6.ad c aA) vU
  rw[aH,lc]at bW
  refine fA @iX @fx @t1 @t0 @d @di @kP ⟨?_⟩
  refine(aqu az Zo (hh.ad (Q:=P) aG (λ_ a=>a)) Zo anC).Zm ?_
  rintro ab bf bE ⟨rfl,cq⟩
  by_cases gy:g.name=nm
  ·rw[Zu gy]at bW
   have cC:decide (g.name=nm)=true:=by simp[gy]
   rw[cC]
   refine c7 ⟨?_⟩
   exact⟨by rw[bW],b6.trans cq⟩
  ·rw[Zg gy]at bW
   have cC:decide (g.name=nm)=false:=by simp[gy]
   rw[cC]
   refine dq @iX @bB ⟨?_⟩
   exact⟨m,Zo,Y+1,bz t0,bz t1,bz fx,bF,Zo,b6.trans cq,bW⟩
def Lg(b:Nat):dD X h .eql 23 true (.ptr b 0) .cN=some .zF:=Zk
def acC{C:aT}{h:M ak}(x:Int):r1 C h .max [3,3] [.Z x, .Z 0]=some (.Z (max x 0)):=by
 show oG true (.Z x) [.Z 0]=_
 simp only[oG,eQ,tz,ZE]
 congr 2
 simp only[Zi]
 split<;>omega
def Xq(az:dW X){v:y}(aI:(o X).aY<=j)(bw:lL X h P an v)(bI:∀e,P e->e<j)(nm:ba):
 a1 X 40 [v, .str nm] h j (λab R au=>ab= .tuple [.Z (((iz an nm).getD 0:Nat):Int), .bool (iz an nm).isSome]/\bp X h j R au) (λ_ _ _=>False):=by
 refine zL az (agx X) ?_
 rw[agy]
 unfold UP
 obtain⟨b,a2,cn,aK,rfl,LM,a0,c3,uD⟩:=bw
 have f0:=bI b LM
 refine dq @Lg @a0 ⟨?_⟩
 refine e8 (λaX=>Z X aX j=zI [.str nm] 1/\bp X h j aX (j+1)) ⟨bn aI,dM⟩ ?_
 rintro aX ⟨g1,bY⟩
 have aG:=λe (B:P e)=>bY.ad e (bI e B)
 refine(aql (j:=j+1) (h:=aX) az Zo (c3.ad aG) (uD.ad (Q:=P) aG (λ_ a=>a)) (λe B=>zE (bI e B)) Zo (by rw[bU g1];rfl)).Zm ?_
 rintro ab aP be ⟨rfl,b6⟩
 cases bW:iz an nm with
 |none=>
  refine ce @acC ⟨?_⟩
  exact⟨rfl,bY.trans b6⟩
 |some q=>
  have d:decide ((0:Int)<=(q:Int))=true:=by simp only[Zi];omega
  have bc:max (q:Int) 0=(q:Int):=Zo
  refine eP @acC @d @bc ⟨?_⟩
  exact⟨rfl,bY.trans b6⟩
end
mutual
def BX{iM:Type}(step:iM->bL->iM×Bool):iM->bL->iM
 |s, .mk q E nm no t n args=>if (step s (.mk q E nm no t n args)).2=true then wJ step (step s (.mk q E nm no t n args)).1 args else(step s (.mk q E nm no t n args)).1
def wJ{iM:Type}(step:iM->bL->iM×Bool):iM->List bL->iM
 |s,[]=>s
 |s,D::k=>wJ step (BX step s D) k
end
def awd{iM:Type}(step:iM->bL->iM×Bool)(s:iM)(D:bL):BX step s D=if (step s D).2=true then wJ step (step s D).1 D.args else(step s D).1:=by
 cases D;rw[BX];rfl
def auO{D E:bL}(a:E∈D.args):SizeOf.sizeOf E<SizeOf.sizeOf D:=by
 cases D with
 |mk q at_ nm no t n args=>
  have co:E∈args:=a
  have:=List.sizeOf_lt_of_mem co
  simp
  omega
section
variable{X:cl}{h R aX aP:M ak}{j au aM be:Nat}
def awf(az:dW X){iM:Type}(step:iM->bL->iM×Bool)(P:Nat->Prop)(dO:iM->M ak->Nat->Prop)(fg:M ak)(eE:bL->y->Prop)(ku:∀D b a2 cn bx,eE D (.ptr b 0)->aV X fg (.ptr b 8)=some a2->et X fg P cn a2 1 (bx.map λv=>[v])->dw X fg P D.args bx->∀(i:Nat) E w,D.args[i]? =some E->bx[i]? =some w->eE E w)(q:Nat)(CK vF:List y)
 (rh:∀(s:iM) (D:bL) (v:y) (h:M ak) (j:Nat),dO s h j->eE D v->cG X h P D v->(∀e,P e->Z X h e=Z X fg e)->a1 X q ((CK++[v])++vF) h j (λab R au=>ab= .bool (step s D).2/\dO (step s D).1 R au/\∀e,P e->Z X R e=Z X h e) (λ_ _ _=>False)):
 ∀(N:Nat) (D:bL),SizeOf.sizeOf D<N->∀(s:iM) (v:y) (h:M ak) (j:Nat),dO s h j->eE D v->cG X h P D v->(∀e,P e->Z X h e=Z X fg e)->
  a1 X 26 [v, .func (.func q) CK vF] h j (λab R au=>ab= .tuple []/\dO (BX step s D) R au/\∀e,P e->Z X R e=Z X h e) (λ_ _ _=>False):=by
 intro N
 induction N with
 |zero=>intro D a;omega
 |succ N aj=>
  intro D jd s v h j ih V bt oR
  refine zL az (aga X) ?_
  rw[agb]
  unfold UD
  obtain⟨b,a2,cn,bx,rfl,al,_,_,_,_,_,_,_,_,ko,c3,has⟩:=id bt.open
  have er:=c3.len
  have IZ:=has.len
  rw[Zp,IZ]at er
  have jq:=c3.many
  rw[Zp,IZ]at jq
  rw[awd]
  refine ce @Ns ⟨?_⟩
  refine(rh s D _ h j ih V bt oR).Zm ?_
  rintro ab aX aM ⟨rfl,γ,mE⟩
  cases axa:(step s D).2 with
  |false=>
   refine c7 ⟨?_⟩
   exact⟨rfl,γ,mE⟩
  |true=>
   have Hd:aV X aX (.ptr b 8)=some a2:=zP (mE b al) ko
   refine dq @Hd @er ⟨?_⟩
   refine gK (λm I R aS=>∃(Y:Nat) (fc:iM),I.g 1=some (.func (.func q) CK vF)/\I.g 17=some a2/\I.g 18=some (.Z (D.args.length:Int))/\I.g 19=some (.Z (Y:Int))/\Y+m=D.args.length/\dO fc R aS/\(∀e,P e->Z X R e=Z X h e)/\wJ step (step s D).1 D.args=wJ step fc (D.args.drop Y))
    D.args.length ⟨0,_,bF,bF,bF,ho,Zo,γ,mE,rfl⟩ ?_
   rintro m I aP be ⟨Y,fc,t1,aei,GD,wD,bD,Ax,gH,br⟩
   cases m with
   |zero=>
    have d:=zF Y D.args.length
    rw[ZR Zo,wJ]at br
    refine eP @wD @GD @d ⟨?_⟩
    exact⟨rfl,by simp only[ZE];rw[br];exact Ax,gH⟩
   |succ m=>
    have d:=zG Y D.args.length
    have bB:=zJ Y
    obtain⟨E,aD⟩:=zH D.args Y
    have aH:D.args.drop Y=E::D.args.drop (Y+1):=by
     obtain⟨af,B⟩:=Zb.1 aD
     rw[ZA af,B]
    obtain⟨w,oc,QJ⟩:=has.get Y E aD
    obtain⟨g1,b5,cR⟩:=(c3.ad gH).one oc
    rw[aH,wJ]at br
    refine fA @wD @GD @aei @t1 @d @g1 @b5 ⟨?_⟩
    have eh:=auO (Zh aD)
    refine(aj E Zo fc w aP be Ax (ku D b a2 cn bx V (by rw[cT, <-oR b al, <-cT];exact ko) (c3.ad λe B=>(oR e B).symm) (dw.ad (λe B=>(oR e B).symm) _ _ has) Y E w aD oc) (cG.ad gH _ _ QJ) (λe B=>(gH e B).trans (oR e B))).Zm ?_
    rintro ab bf bE ⟨rfl,xz,sm⟩
    refine dq @wD @bB ⟨?_⟩
    exact⟨m,Zo,Y+1,_,bz t1,bz aei,bz GD,bF,Zo,xz,λe B=>by rw[sm e B,gH e B],br⟩
def awe(az:dW X){iM:Type}(step:iM->bL->iM×Bool)(P:Nat->Prop)(dO:iM->M ak->Nat->Prop)(q:Nat)(CK vF:List y)
 (rh:∀(s:iM) (D:bL) (v:y) (h:M ak) (j:Nat),dO s h j->cG X h P D v->a1 X q ((CK++[v])++vF) h j (λab R au=>ab= .bool (step s D).2/\dO (step s D).1 R au/\∀e,P e->Z X R e=Z X h e) (λ_ _ _=>False))
 (N:Nat)(D:bL)(jd:SizeOf.sizeOf D<N)(s:iM)(v:y)(h:M ak)(j:Nat)(ih:dO s h j)(bt:cG X h P D v):
  a1 X 26 [v, .func (.func q) CK vF] h j (λab R au=>ab= .tuple []/\dO (BX step s D) R au/\∀e,P e->Z X R e=Z X h e) (λ_ _ _=>False):=
 awf az step P dO h (λ_ _=>True) (λ_ _ _ _ _ _ _ _ _ _ _ _ _ _=>trivial) q CK vF (λs D v h j ih _ bt _=>rh s D v h j ih bt) N D jd s v h j ih trivial bt (λ_ _=>rfl)
end
def fP(X:cl)(h:M ak)(cL:Nat)(p:y)(q:Int)(dK c1:y)(f:Int×Int):Prop:=Z X h cL=zI [p, .Z q,dK,c1, .Z f.1, .Z f.2] 6
def la(f:Int×Int)(c E:Int):Int×Int:=if f.1=0 then(c,E)else f
section
variable{X:cl}{h R aX aP:M ak}{j au aM be:Nat}
def vv(az:dW X){cL:Nat}{p dK c1:y}{q:Int}{f:Int×Int}(aI:(o X).aY<=cL)(aA:fP X h cL p q dK c1 f)(c E:Int):
 a1 X 41 [.ptr cL 0, .Z c, .Z E] h j (λab R au=>ab= .tuple []/\fP X R cL p q dK c1 (la f c E)/\j<=au/\∀e,e≠cL->Z X R e=Z X h e) (λ_ _ _=>False):=by
 refine zL az (agz X) ?_
 rw[agA]
 unfold UQ
 obtain⟨ef,eX⟩:=f
 have anx:=aA
 unfold fP at aA
 have fl:aV X h (.ptr cL 4)=some (.Z ef):=by rw[bU aA];rfl
 by_cases bi:ef=0
 ·have d:decide (ef=0)=true:=by simp[bi]
  refine hU ⟨?_⟩
  refine hU ⟨?_⟩
  refine hU ⟨?_⟩
  refine dq @fl @d ⟨?_⟩
  refine⟨rfl, ?_,Zj _,λe B=>aL Zo B⟩
  unfold fP la
  rw[bn Zo]
  simp only[bi,ZE]
  rfl
 ·have d:decide (ef=0)=false:=by simp[bi]
  refine dq @fl @d ⟨?_⟩
  refine⟨rfl, ?_,Zj _,λ_ _=>rfl⟩
  unfold la
  simp only[bi,ZD]
  exact anx
def wn(D:bL):Bool:=decide (D.kind=2)||decide (D.kind=6)||decide (D.kind=24)
def asn(az:dW X){P:Nat->Prop}{D:bL}{v:y}(bt:cG X h P D v):
 a1 X 76 [v] h j (λab R au=>ab= .bool (wn D)/\R=h/\j<=au) (λ_ _ _=>False):=by
 refine zL az (aht X) ?_
 rw[ahu]
 unfold Vp
 obtain⟨b,rfl,al,a0⟩:=bt.ptr
 by_cases K:D.kind=2
 ·have d:decide (D.kind=2)=true:=by simp[K]
  refine dq @a0 @d ⟨?_⟩
  exact⟨by simp[wn,K],rfl,Zo⟩
 ·have d:decide (D.kind=2)=false:=by simp[K]
  by_cases b1:D.kind=6
  ·have i7:decide (D.kind=6)=true:=by simp[b1]
   refine eP @a0 @d @i7 ⟨?_⟩
   exact⟨by simp[wn,b1],rfl,Zo⟩
  ·have i7:decide (D.kind=6)=false:=by simp[b1]
   refine eP @a0 @d @i7 ⟨?_⟩
   exact⟨by simp[wn,K,b1],rfl,Zo⟩
end
def E1(D:ba×y×Nat):y×y×Nat:=(.str D.1,D.2.1,D.2.2)
variable{bq:Type}[DecidableEq bq]
def oO:List (bq×y×Nat)->bq->Nat->Option (Nat×y)
 |[],_,_=>none
 |x::d5,w,i=>if x.1=w then some (i,x.2.1)else oO d5 w (i+1)
def u0(d5:List (bq×y×Nat))(w:bq):Option y:=(oO d5 w 0).map Prod.snd
def PU(w:bq):∀(d5:List (bq×y×Nat)) (i:Nat),oO d5 w (i+1)=(oO d5 w i).map λp=>(p.1+1,p.2):=by
 intro d5
 induction d5 with
 |nil=>intro i;rfl
 |cons x d5 aj=>
  intro i
  simp only[oO]
  split
  ·rfl
  ·exact aj (i+1)
def Bi(x:bq×y×Nat)(d5:List (bq×y×Nat))(w:bq):u0 (x::d5) w=if x.1=w then some x.2.1 else u0 d5 w:=by
 unfold u0
 simp only[oO]
 split
 ·rfl
 ·rw[PU];cases oO d5 w 0<;>rfl
def alf(w:bq):∀(d5:List (bq×y×Nat)) (Y:Nat) (v:y),oO d5 w 0=some (Y,v)->∃b,d5[Y]? =some (w,v,b):=by
 intro d5
 induction d5 with
 |nil=>intro Y v a;cases a
 |cons x d5 aj=>
  intro Y v a
  simp only[oO]at a
  split at a
  ·rename_i D
   cases a
   exact⟨x.2.2,by simp[<-D]⟩
  ·rw[PU]at a
   cases bG:oO d5 w 0 with
   |none=>rw[bG]at a;cases a
   |some p=>
    rw[bG]at a
    simp at a
    obtain⟨rfl,rfl⟩:=a
    obtain⟨b,al⟩:=aj p.1 p.2 bG
    exact⟨b,by simpa using al⟩
def arO(w w':bq)(v:y)(b:Nat):∀d5:List (bq×y×Nat),u0 d5 w=none->u0 (d5++[(w,v,b)]) w'=if w'=w then some v else u0 d5 w':=by
 intro d5
 induction d5 with
 |nil=>
  intro _
  rw[YS,Bi]
  by_cases a:w'=w
  ·simp[a]
  ·have:¬w=w':=λD=>a D.symm
   simp[a,this]
 |cons x d5 aj=>
  intro a
  rw[Bi]at a
  split at a
  ·cases a
  ·rename_i af
   rw[List.cons_append,Bi,Bi,aj a]
   by_cases D:x.1=w'
   ·have:¬w'=w:=λai=>af (D.trans ai)
    simp[D,this]
   ·simp[D]
def arP(w w':bq)(v:y):∀(d5:List (bq×y×Nat)) (Y:Nat) (v0:y) (b:Nat),oO d5 w 0=some (Y,v0)->u0 (d5.set Y (w,v,b)) w'=if w'=w then some v else u0 d5 w':=by
 intro d5
 induction d5 with
 |nil=>intro Y v0 b a;cases a
 |cons x d5 aj=>
  intro Y v0 b a
  simp only[oO]at a
  split at a
  ·rename_i D
   simp at a
   obtain⟨rfl,rfl⟩:=a
   rw[Yg,Bi,Bi]
   by_cases a:w'=w
   ·simp[a]
   ·have H:¬w=w':=λai=>a ai.symm
    have K:¬x.1=w':=λai=>a (ai.symm.trans D)
    simp[a,H,K]
  ·rename_i D
   rw[PU]at a
   cases bG:oO d5 w 0 with
   |none=>rw[bG]at a;cases a
   |some p=>
    rw[bG]at a
    simp at a
    obtain⟨rfl,rfl⟩:=a
    rw[Yl,Bi,Bi,aj p.1 p.2 b bG]
    by_cases K:x.1=w'
    ·have:¬w'=w:=λai=>D (K.trans ai)
     simp[K,this]
    ·simp[K]
section
variable{X:cl}{h R aX aP:M ak}{j au aM be:Nat}
def oC(X:cl)(h:M ak)(r:Nat)(wi:ba->Option y):Prop:=∃d5 fL,Z X h r=some (.map (d5.map E1) fL)/\∀w,u0 d5 w=wi w
def oC.ad{r:Nat}{wi:ba->Option y}(a:oC X h r wi)(q:Z X R r=Z X h r):oC X R r wi:=by
 obtain⟨d5,fL,H,K⟩:=a
 exact⟨d5,fL,by rw[q];exact H,K⟩
def Nj(w:ba):nw X 20 9 (.str w)=true:=Zk
def Xa(w w':ba):nu X h 20 9 (.str w) (.str w')=some (mP w w'):=Zk
def PR(w:ba):∀(d5:List (ba×y×Nat)) (i:Nat),findKey X h 9 (.str w) (d5.map E1) i=some (oO d5 w i):=by
 intro d5
 induction d5 with
 |nil=>intro i;rfl
 |cons x d5 aj=>
  intro i
  simp only[ZJ,E1,findKey,Xa,DT,oO]
  by_cases a:w=x.1
  ·have:x.1=w:=a.symm
   simp[this]
  ·have:¬x.1=w:=λD=>a D.symm
   simp only[a,this,Yq,ZD]
   exact aj (i+1)
def aqN(w:ba):pa 20 (.str w) (.str w)=true:=by
 show mP w w=true
 rw[DT];simp
def DL{r:Nat}{wi:ba->Option y}(a:oC X h r wi)(bo:y)(w:ba)(ok:Bool):
 nd X h 9 bo (.map r) (.str w) ok=some (match wi w with|some v=>bH ok (.tuple [v, .zT]) v|none=>bH ok (.tuple [bo, .zF]) bo):=by
 obtain⟨d5,fL,H,K⟩:=a
 have am:=K w
 unfold u0 at am
 simp only[nd,H,Nj,eW,PR]
 cases bG:oO d5 w 0 with
 |none=>rw[bG]at am;rw[<-am];rfl
 |some p=>rw[bG]at am;rw[<-am];rfl
def M3{r:Nat}{wi:ba->Option y}(V:(o X).aY<=r)(a:oC X h r wi)(w:ba)(v:y):
 ∃R,DQ X h j 9 (.map r) (.str w) v=some (.fq bs.undef R j)/\oC X R r (λx=>if x=w then some v else wi x)/\∀e,e≠r->Z X R e=Z X h e:=by
 obtain⟨d5,fL,H,K⟩:=a
 have aH:j5 X r=true:=jP V
 cases bW:oO d5 w 0 with
 |none=>
  refine⟨Go.bs.bl X h r (some (.map ((d5++[(w,v,fL)]).map E1) (fL+1))), ?_,⟨d5++[(w,v,fL)],fL+1,bn V,λx=> ?_⟩,λe B=>aL V B⟩
  ·simp only[DQ,H,Nj,eW,PR,bW,bs.setObj,aH,eW,g5]
   rw[Yu]
   rfl
  ·rw[arO _ _ _ _ _ (by unfold u0;rw[bW];rfl),K]
 |some p=>
  obtain⟨Y,v0⟩:=p
  obtain⟨born,al⟩:=alf w d5 Y v0 bW
  have cE:(d5.map E1)[Y]? =some (.str w,v0,born):=by rw[Zy,al];rfl
  refine⟨Go.bs.bl X h r (some (.map ((d5.set Y (w,v,born)).map E1) fL)), ?_,⟨d5.set Y (w,v,born),fL,bn V,λx=> ?_⟩,λe B=>aL V B⟩
  ·simp only[DQ,H,Nj,eW,PR,bW,rs,cE,aqN,bs.setObj,aH,eW,g5]
   rw[List.map_set]
   rfl
  ·rw[arP w x v d5 Y v0 born bW,K]
end
end
noncomputable section
structure fZ where
 kind:Int
 d:d4
 eq:Int
 left:Int
def wI:fZ:=⟨0,⟨[],0,dr,[],0,false⟩,0,0⟩
def p8(v:fZ):List y:=[.Z v.kind, .str v.d.name, .Z v.d.at_, .bool v.d.ty.b, .bool v.d.ty.s, .Z v.d.ty.w, .str v.d.on, .Z v.d.fT, .bool v.d.no, .Z v.eq, .Z v.left]
def wY(X:cl)(h:M ak)(P:Nat->Prop)(dK:y)(t:ba->Option fZ):Prop:=∃b r,dK= .ptr b 0/\P b/\P r/\aV X h (.ptr b 0)=some (.map r)/\oC X h r (λw=>(t w).map λv=> .agg (p8 v))
section
variable{X:cl}{h R aX aP:M ak}{j au aM be:Nat}
def wY.ad{P Q:Nat->Prop}{dK:y}{t:ba->Option fZ}(a:wY X h P dK t)(q:∀e,P e->Z X R e=Z X h e)(aB:∀e,P e->Q e):wY X R Q dK t:=by
 obtain⟨b,r,H,K,am,aC,bm⟩:=a
 exact⟨b,r,H,aB b K,aB r am,zP (q b K) aC,bm.ad (q r am)⟩
def akR(b:Nat):dD X h .eql 70 true (.ptr b 0) .cN=some .zF:=Zk
def Qf(az:dW X){P:Nat->Prop}{dK:y}{t:ba->Option fZ}(aI:(o X).aY<=j)(a8:wY X h P dK t)(bI:∀e,P e->e<j)(w:ba):
 a1 X 74 [dK, .str w] h j (λab R au=>ab= .tuple [.agg (p8 ((t w).getD wI)), .bool (t w).isSome]/\bp X h j R au) (λ_ _ _=>False):=by
 refine zL az (ahp X) ?_
 rw[ahq]
 unfold Vn
 obtain⟨b,r,rfl,al,V,a0,bc⟩:=a8
 have f0:=bI b al
 have AK:=bI r V
 refine r0 ?_
 generalize eN:bl X h j _=aX
 have g1:Z X aX j=zI [.Z 0, .str [], .Z 0, .zF, .zF, .Z 0, .str [], .Z 0, .zF, .Z 0, .Z 0] 11:=by rw[<-eN,bn aI];rfl
 have bY:bp X h j aX (j+1):=by rw[<-eN];exact dM
 clear eN
 have a7:aV X aX (.ptr b 0)=some (.map r):=zP (bY.ad b f0) a0
 have IA:=bc.ad (bY.ad r AK)
 have kb:=DL IA (.agg [.Z 0, .str [], .Z 0, .zF, .zF, .Z 0, .str [], .Z 0, .zF, .Z 0, .Z 0]) w true
 have aaP:nd X aX 9 (.agg [.Z 0, .str [], .Z 0, .zF, .zF, .Z 0, .str [], .Z 0, .zF, .Z 0, .Z 0]) (.map r) (.str w) true=some (.tuple [.agg (p8 ((t w).getD wI)), .bool (t w).isSome]):=by
  rw[kb];cases t w<;>rfl
 clear kb
 generalize (t w).getD wI=v at*
 have uT:p8 v=[.Z v.kind, .str v.d.name, .Z v.d.at_, .bool v.d.ty.b, .bool v.d.ty.s, .Z v.d.ty.w, .str v.d.on, .Z v.d.fT, .bool v.d.no, .Z v.eq, .Z v.left]:=rfl
 rw[uT]at aaP ⊢
 refine eP @akR @a7 @aaP ⟨?_⟩
 refine gi (jJ (q:=11) (b:=j) (W:=0) (n:=11) (c:=M.ofList [.Z 0, .str [], .Z 0, .zF, .zF, .Z 0, .str [], .Z 0, .zF, .Z 0, .Z 0] 0 .nil) (by simp(disch:=omega) only[aL];exact g1) aI rfl Zd Zd rfl) ?_
 generalize fE:bl X _ j _=bf
 have cR:Z X bf j=zI [.Z v.kind, .str v.d.name, .Z v.d.at_, .bool v.d.ty.b, .bool v.d.ty.s, .Z v.d.ty.w, .str v.d.on, .Z v.d.fT, .bool v.d.no, .Z v.eq, .Z v.left] 11:=by rw[<-fE,bn aI];rfl
 have cq:bp X h j bf (j+1+1):=⟨Zo,λe B=>by rw[<-fE];simp(disch:=omega) only[aL];exact bY.ad e B⟩
 clear fE
 refine ce (bU cR) ⟨?_⟩
 exact⟨rfl,cq⟩
end
def Bh(t:ba->Option fZ)(aa:ba->Option Int)(f:Int×Int)(w:ba)(E:Int):Int×Int:=match t w with
 |none=>la f 23 E
 |some v=>if v.kind=1\/1<(aa w).getD 0+1 then la f 24 E else f
def n3(aa:ba->Option Int)(w:ba):Option y:=(aa w).map λq=> .Z q
section
variable{X:cl}{h R aX aP:M ak}{j au aM be:Nat}
def aro(az:dW X){P:Nat->Prop}{cL c1:Nat}{p dK:y}{q:Int}{t:ba->Option fZ}{aa:ba->Option Int}{f:Int×Int}(aI:(o X).aY<=j)(m7:(o X).aY<=cL)(vV:(o X).aY<=c1)(xF:cL<j)(uA:c1<j)(AB:cL≠c1)
 (aA:fP X h cL p q dK (.map c1) f)(a8:wY X h P dK t)(bI:∀e,P e->e<j/\e≠cL/\e≠c1)(gf:oC X h c1 (n3 aa))(w:ba)(E:Int)(al:0<=(aa w).getD 0/\(aa w).getD 0<4000000000000000000):
 a1 X 43 [.ptr cL 0, .str w, .Z E] h j (λab R au=>ab= .tuple []/\fP X R cL p q dK (.map c1) (Bh t aa f w E)/\oC X R c1 (n3 λx=>if x=w then some ((aa w).getD 0+1)else aa x)/\j<=au/\∀e,e<j->e≠cL->e≠c1->Z X R e=Z X h e) (λ_ _ _=>False):=by
 refine zL az (agD X) ?_
 rw[agE]
 unfold US
 have cD:aV X h (.ptr cL 2)=some dK:=by unfold fP at aA;rw[bU aA];rfl
 refine ce @cD ⟨?_⟩
 refine(Qf az aI a8 (λe B=>(bI e B).1) w).Zm ?_
 rintro ab aX aM ⟨rfl,bY⟩
 have jD:=bY.le
 have xD:fP X aX cL p q dK (.map c1) f:=by unfold fP;rw[bY.ad cL xF];exact aA
 have amL:=gf.ad (bY.ad c1 uA)
 generalize bu:(t w).getD wI=v
 have uT:p8 v=[.Z v.kind, .str v.d.name, .Z v.d.at_, .bool v.d.ty.b, .bool v.d.ty.s, .Z v.d.ty.w, .str v.d.on, .Z v.d.fT, .bool v.d.no, .Z v.eq, .Z v.left]:=rfl
 rw[uT]
 refine hU ⟨?_⟩
 refine hU ⟨?_⟩
 refine r0 ?_
 refine hU ⟨?_⟩
 generalize dN:bl X _ aM _=aP
 have b5:Z X aP aM=zI [.Z v.kind, .str v.d.name, .Z v.d.at_, .bool v.d.ty.b, .bool v.d.ty.s, .Z v.d.ty.w, .str v.d.on, .Z v.d.fT, .bool v.d.no, .Z v.eq, .Z v.left] 11:=by rw[<-dN,bn Zo];rfl
 have b6:bp X h j aP (aM+1):=⟨Zo,λe B=>by rw[<-dN];simp(disch:=omega) only[aL];exact bY.ad e B⟩
 have gH:∀e,e<aM->Z X aP e=Z X aX e:=λe B=>by rw[<-dN];exact zK
 clear dN
 have Fr:fP X aP cL p q dK (.map c1) f:=by unfold fP;rw[gH cL Zo];exact xD
 have XX:=amL.ad (gH c1 Zo)
 have ec:aV X aP (.ptr cL 3)=some (.map c1):=by unfold fP at Fr;rw[bU Fr];rfl
 have kb:nd X aP 9 (.Z 0) (.map c1) (.str w) false=some (.Z ((aa w).getD 0)):=by
  rw[DL XX];unfold n3;cases aa w<;>rfl
 have bB:bg .add (.Z ((aa w).getD 0)) (.Z 1)=some (.Z ((aa w).getD 0+1)):=eK Zo Zo
 refine eP @ec @kb @bB ⟨?_⟩
 obtain⟨bf,uK,XY,sm⟩:=M3 (j:=aM+1) vV XX w (.Z ((aa w).getD 0+1))
 refine kh uK ?_
 have tn:fP X bf cL p q dK (.map c1) f:=by unfold fP;rw[sm cL AB];exact Fr
 rw[<-sm aM Zo]at b5
 have HY:oC X bf c1 (n3 λx=>if x=w then some ((aa w).getD 0+1)else aa x):=by
  have:(λx=>if x=w then some (y.Z ((aa w).getD 0+1))else n3 aa x)=(n3 λx=>if x=w then some ((aa w).getD 0+1)else aa x):=by
   funext x;unfold n3;by_cases a:x=w<;>simp[a]
  rw[<-this];exact XY
 have Mb:∀e,e<j->e≠c1->Z X bf e=Z X h e:=λe H K=>by rw[sm e K];exact b6.ad e H
 clear kb uK XY ec
 unfold Bh
 cases IT:t w with
 |none=>
  simp only[Z4,Ys]
  refine c7 ⟨?_⟩
  refine(vv (j:=aM+1) (h:=bf) az m7 tn 23 E).Zm ?_
  rintro ab bT b3 ⟨rfl,sf,je,gg⟩
  refine c7 ⟨?_⟩
  exact⟨by first|trivial|rfl,sf,HY.ad (gg c1 Zo),Zo,λe H K am=>by rw[gg e K];exact Mb e H am⟩
 |some gj=>
  have Dx:gj=v:=by rw[IT]at bu;exact bu
  subst Dx
  simp only[Z8,Yt]
  have fb:aV X bf (.ptr aM 0)=some (.Z gj.kind):=by rw[bU b5];rfl
  have ec:aV X bf (.ptr cL 3)=some (.map c1):=by unfold fP at tn;rw[bU tn];rfl
  have kb:nd X bf 9 (.Z 0) (.map c1) (.str w) false=some (.Z ((aa w).getD 0+1)):=by
   rw[DL HY];unfold n3;simp
  by_cases H:gj.kind=1
  ·have d:decide (gj.kind=1)=true:=by simp[H]
   refine dq @fb @d ⟨?_⟩
   refine(vv (j:=aM+1) (h:=bf) az m7 tn 24 E).Zm ?_
   rintro ab bT b3 ⟨rfl,sf,je,gg⟩
   refine c7 ⟨?_⟩
   exact⟨by first|trivial|rfl,by simp only[H,true_or,ZE];exact sf,HY.ad (gg c1 Zo),Zo,λe H K am=>by rw[gg e K];exact Mb e H am⟩
  ·have d:decide (gj.kind=1)=false:=by simp[H]
   by_cases K:1<(aa w).getD 0+1
   ·have cC:decide (1<(aa w).getD 0+1)=true:=by simp only[Zi];exact K
    refine g0 @fb @d @ec @kb @cC ⟨?_⟩
    refine(vv (j:=aM+1) (h:=bf) az m7 tn 24 E).Zm ?_
    rintro ab bT b3 ⟨rfl,sf,je,gg⟩
    refine c7 ⟨?_⟩
    exact⟨by first|trivial|rfl,by simp only[H,K,or_true,ZE];exact sf,HY.ad (gg c1 Zo),Zo,λe H K am=>by rw[gg e K];exact Mb e H am⟩
   ·have cC:decide (1<(aa w).getD 0+1)=false:=by simp only[Ze];exact K
    refine g0 @fb @d @ec @kb @cC ⟨?_⟩
    exact⟨by first|trivial|rfl,by simp only[H,K,Yw,ZD];exact tn,HY,Zo,λe H K am=>Mb e H am⟩
end
def tU(t:ba->Option fZ)(f:Int×Int)(D:bL):Int×Int:=if wn D then(if (t D.name).isSome then f else la f 23 D.at_)else f
def Ec(an:List Go.aQ.Node)(q:Nat)(f:Int×Int)(D:bL):Int×Int:=if D.kind=25 then(match iz an D.name with
 |none=>la f 23 D.at_
 |some Y=>if q<=Y then la f 25 D.at_ else f)else f
def rx(t:ba->Option fZ)(an:List Go.aQ.Node)(q:Nat)(f:Int×Int)(D:bL):(Int×Int)×Bool:=(Ec an q (tU t f D) D,true)
structure Ex(X:cl)(fg:M ak)(aY cL:Nat)(p:y)(q:Nat)(dK c1:y)(f:Int×Int)(h:M ak)(j:Nat):Prop where
 le:aY<=j
 jQ:fP X h cL p q dK c1 f
 low:∀e,e<aY->e≠cL->Z X h e=Z X fg e
section
variable{X:cl}{h R fg aX aP:M ak}{j au aM be:Nat}
def aua(az:dW X){P:Nat->Prop}{jH cL hG:Nat}{p dK c1:y}{q:Nat}{t:ba->Option fZ}{an:List Go.aQ.Node}(axI:(o X).aY<=jH)(m7:(o X).aY<=cL)(xF:cL<jH)(Ml:hG<jH)(Mi:hG≠cL)(bG:aV X fg (.ptr hG 0)=some (.ptr cL 0))
 (bI:∀e,P e->e<jH/\e≠cL)(a8:wY X fg P dK t)(bw:lL X fg P an p){f:Int×Int}(oQ:Ex X fg jH cL p q dK c1 f h j){D:bL}{v:y}(bt:cG X h P D v):
 a1 X 75 [v, .ptr hG 0] h j (λab R au=>ab= .zT/\Ex X fg jH cL p q dK c1 (rx t an q f D).1 R au) (λ_ _ _=>False):=by
 refine zL az (ahr X) ?_
 rw[ahs]
 unfold Vo
 refine(asn az bt).Zm ?_
 rintro ab aX aM ⟨rfl,rfl,jD⟩
 have axL:=oQ.le
 have jf:∀h,Z X h hG=Z X fg hG->aV X h (.ptr hG 0)=some (.ptr cL 0):=λh a=>zP a bG
 refine kx (λcP R aS=>cP.g 0=some v/\cP.g 1=some (.ptr hG 0)/\Ex X fg jH cL p q dK c1 (tU t f D) R aS/\cG X R P D v) (λY bD=> ?_) ?_
 ·obtain⟨b,_,_,_,rfl,al,a0,a7,b2,_⟩:=id bt.open
  unfold tU at bD
  cases gy:wn D with
  |false=>
   rw[gy]at bD
   simp only[Zv,ZD]at bD
   refine c7 ⟨?_⟩
   exact bD _ _ _ ⟨bF,bF,⟨Zo,oQ.jQ,oQ.low⟩,bt⟩
  |true=>
   rw[gy]at bD
   simp only[ZE]at bD
   have RG:=jf aX (oQ.low hG Ml Mi)
   have cD:aV X aX (.ptr cL 2)=some dK:=by have:=oQ.jQ;unfold fP at this;rw[bU this];rfl
   refine eP @RG @cD @b2 ⟨?_⟩
   refine e8 (λaP=>Z X aP (aM+12)=zI [.Z 0, .str [], .Z 0, .zF, .zF, .Z 0, .str [], .Z 0, .zF, .Z 0, .Z 0] 11/\bp X aX aM aP (aM+12+1)) ⟨by rw[bn Zo];rfl,Zo,λe B=>zK⟩ ?_
   rintro aP ⟨b5,b6⟩
   have ck:∀e,e<jH->Z X aP e=Z X aX e:=λe B=>b6.ad e Zo
   refine(Qf (j:=aM+15) (h:=aP) az Zo (a8.ad (Q:=P) (λe B=>by rw[ck e (bI e B).1];exact oQ.low e (bI e B).1 (bI e B).2) (λ_ a=>a)) (λe B=>zE (bI e B).1) D.name).Zm ?_
   rintro ab bf bE ⟨rfl,cq⟩
   have jE:=cq.le
   have cR:Z X bf (aM+12)=zI [.Z 0, .str [], .Z 0, .zF, .zF, .Z 0, .str [], .Z 0, .zF, .Z 0, .Z 0] 11:=by rw[cq.ad _ Zo];exact b5
   generalize Dx:(t D.name).getD wI=e7
   have uT:p8 e7=[.Z e7.kind, .str e7.d.name, .Z e7.d.at_, .bool e7.d.ty.b, .bool e7.d.ty.s, .Z e7.d.ty.w, .str e7.d.on, .Z e7.d.fT, .bool e7.d.no, .Z e7.eq, .Z e7.left]:=rfl
   rw[uT]
   refine hU ⟨?_⟩
   refine hU ⟨?_⟩
   refine gi (jJ (q:=11) (b:=aM+12) (W:=0) (n:=11) cR Zo rfl Zd Zd rfl) ?_
   generalize iC:bl X bf (aM+12) _=bT
   have eL:∀e,e<aM->Z X bT e=Z X aX e:=λe B=>by rw[<-iC,aL Zo Zo,cq.ad e Zo,b6.ad e B]
   clear iC b5 cR
   have LI:Ex X fg jH cL p q dK c1 f bT bE:=⟨Zo,by have:=oQ.jQ;unfold fP at*;rw[eL cL Zo];exact this,λe H K=>by rw[eL e Zo];exact oQ.low e H K⟩
   have tq:cG X bT P D (.ptr b 0):=cG.ad (λe B=>eL e (zE (bI e B).1)) _ _ bt
   have apc:=jf bT (LI.low hG Ml Mi)
   have aij:aV X bT (.ptr b 1)=some (.Z D.at_):=zP (eL b (zE (bI b al).1)) a7
   cases sl:(t D.name).isSome with
   |true=>
    rw[sl]at bD
    simp only[ZE]at bD
    refine c7 ⟨?_⟩
    exact bD _ _ _ ⟨bF,bF,LI,tq⟩
   |false=>
    rw[sl]at bD
    simp only[Zv,ZD]at bD
    refine dq @apc @aij ⟨?_⟩
    refine(vv (h:=bT) az m7 LI.jQ 23 D.at_).Zm ?_
    rintro ab bZ ct ⟨rfl,xE,hQ,oX⟩
    refine c7 ⟨?_⟩
    exact bD _ _ _ ⟨bF,bF,⟨Zo,xE,λe H K=>by rw[oX e K];exact LI.low e H K⟩,cG.ad (λe B=>oX e (bI e B).2) _ _ tq⟩
 ·rintro I aP be ⟨t0,t1,CV,Ir⟩
  obtain⟨b,_,_,_,rfl,al,a0,a7,b2,_⟩:=id Ir.open
  have f1:=CV.le
  show cg _ _
  by_cases sb:D.kind=25
  ·have d:decide (D.kind=25)=true:=by simp[sb]
   have RG:=jf aP (CV.low hG Ml Mi)
   have fb:aV X aP (.ptr cL 0)=some p:=by have:=CV.jQ;unfold fP at this;rw[bU this];rfl
   refine fA @t0 @t1 @a0 @d @RG @fb @b2 ⟨?_⟩
   refine(Xq (j:=be+14) (h:=aP) az Zo (bw.ad (Q:=P) (λe B=>CV.low e (bI e B).1 (bI e B).2) (λ_ a=>a)) (λe B=>zE (bI e B).1) D.name).Zm ?_
   rintro ab bf bE ⟨rfl,cq⟩
   have jE:=cq.le
   have CW:Ex X fg jH cL p q dK c1 (tU t f D) bf bE:=⟨Zo,by have:=CV.jQ;unfold fP at*;rw[cq.ad cL Zo];exact this,λe H K=>by rw[cq.ad e Zo];exact CV.low e H K⟩
   have RH:=jf bf (CW.low hG Ml Mi)
   have VU:aV X bf (.ptr b 1)=some (.Z D.at_):=zP (cq.ad b (zE (bI b al).1)) a7
   have dv:aV X bf (.ptr cL 1)=some (.Z (q:Int)):=by have:=CW.jQ;unfold fP at this;rw[bU this];rfl
   cases bW:iz an D.name with
   |none=>
    have V:(rx t an q f D).1=la (tU t f D) 23 D.at_:=by simp[rx,Ec,sb,bW]
    rw[V]
    simp only[Z4]
    refine g6 @t0 @t1 @RH @VU ⟨?_⟩
    refine(vv (h:=bf) az m7 CW.jQ 23 D.at_).Zm ?_
    rintro ab bZ ct ⟨rfl,xE,hQ,oX⟩
    refine c7 ⟨?_⟩
    exact⟨by first|trivial|rfl,Zo,xE,λe H K=>by rw[oX e K];exact CW.low e H K⟩
   |some Y=>
    simp only[Z8,YM]
    by_cases L7:q<=Y
    ·have cC:decide ((q:Int)<=(Y:Int))=true:=by simp only[Zi];omega
     have V:(rx t an q f D).1=la (tU t f D) 25 D.at_:=by simp[rx,Ec,sb,bW,L7]
     rw[V]
     refine kr @t0 @t1 @RH @VU @dv @cC ⟨?_⟩
     refine(vv (h:=bf) az m7 CW.jQ 25 D.at_).Zm ?_
     rintro ab bZ ct ⟨rfl,xE,hQ,oX⟩
     refine c7 ⟨?_⟩
     exact⟨by first|trivial|rfl,Zo,xE,λe H K=>by rw[oX e K];exact CW.low e H K⟩
    ·have cC:decide ((q:Int)<=(Y:Int))=false:=by simp only[Ze];omega
     have V:(rx t an q f D).1=tU t f D:=by simp[rx,Ec,sb,bW,L7]
     rw[V]
     refine g0 @t0 @t1 @RH @dv @cC ⟨?_⟩
     exact⟨by first|trivial|rfl,CW⟩
  ·have d:decide (D.kind=25)=false:=by simp[sb]
   have V:(rx t an q f D).1=tU t f D:=by simp[rx,Ec,sb]
   rw[V]
   refine eP @t0 @a0 @d ⟨?_⟩
   exact⟨by first|trivial|rfl,CV⟩
end
def Gu(t:ba->Option fZ)(an:List Go.aQ.Node)(q:Nat)(f:Int×Int)(D:bL):Int×Int:=BX (rx t an q) f D
section
variable{X:cl}{h:M ak}{j:Nat}
def auc(az:dW X){P:Nat->Prop}{cL:Nat}{p dK c1:y}{q:Nat}{t:ba->Option fZ}{an:List Go.aQ.Node}(aI:(o X).aY<=j)(m7:(o X).aY<=cL)(xF:cL<j)
 (bI:∀e,P e->e<j/\e≠cL)(a8:wY X h P dK t)(bw:lL X h P an p){f:Int×Int}(aA:fP X h cL p q dK c1 f){D:bL}{v:y}(bt:cG X h P D v):
 a1 X 44 [.ptr cL 0,v] h j (λab R au=>ab= .tuple []/\fP X R cL p q dK c1 (Gu t an q f D)/\j<=au/\∀e,e<j->e≠cL->Z X R e=Z X h e) (λ_ _ _=>False):=by
 refine zL az (agF X) ?_
 rw[agG]
 unfold UT
 refine c7 ⟨?_⟩
 refine e8 (λaX=>Z X aX j=zI [.ptr cL 0] 1/\bp X h j aX (j+1)) ⟨bn aI,dM⟩ ?_
 rintro aX ⟨g1,bY⟩
 have Sb:∀e,P e->Z X aX e=Z X h e:=λe B=>bY.ad e (bI e B).1
 have bG:aV X aX (.ptr j 0)=some (.ptr cL 0):=by rw[bU g1];rfl
 refine(awe az (rx t an q) P (Ex X aX (j+1) cL p q dK c1) 75 [] [.ptr j 0] (λs D v aP be ih Ir=> ?_) (SizeOf.sizeOf D+1) D Zo f v aX (j+1) ⟨Zj _,by unfold fP at*;rw[bY.ad cL xF];exact aA,λ_ _ _=>rfl⟩ (cG.ad Sb _ _ bt)).Zm ?_
 ·refine(aua az Zo m7 Zo Zo Zo bG (λe B=>⟨zE (bI e B).1,(bI e B).2⟩) (a8.ad (Q:=P) Sb (λ_ a=>a)) (bw.ad (Q:=P) Sb (λ_ a=>a)) ih Ir).Zm ?_
  rintro ab bf bE ⟨rfl,oQ⟩
  exact⟨rfl,oQ,λe B=>by have:=bI e B;rw[oQ.low e Zo this.2,ih.low e Zo this.2]⟩
 ·rintro ab aP be ⟨rfl,oQ,_⟩
  refine c7 ⟨?_⟩
  have:=oQ.le
  exact⟨by first|trivial|rfl,oQ.jQ,Zo,λe H K=>by rw[oQ.low e Zo K,bY.ad e H]⟩
end
end
end Go.Proofs.YtbbkkkpgjaopkaaGreatDoor

