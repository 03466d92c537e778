/- A part of the proof of the claim's last text: what it is used for is said there; no condition of its own. -/
import Derived.Test.YtpfajohmofnkfaaGreatDoorYy
set_option maxHeartbeats 8000000
set_option linter.unusedVariables false
set_option linter.unusedSimpArgs false
namespace Go.Proofs.YtpfajohmofnkfaaGreatDoor
open Go.al Go.bh
noncomputable section
section
variable{X:cD}{h V ft bb aV:U an}{k av aQ bp:Nat}
def Ly(s:a1):Bool:=match AI s with
 | .error _=>true
 | .ok aC=>decide ((Bl aC).1=0)==Ip aC
theorem apu{C:aX}{h:U an}(x j:Int):q9 C h .min [3,3] [.int .i64 x, .int .i64 j]=some (.int .i64 (min x j)):=by
 show nR false (.int .i64 x) [.int .i64 j]=_
 simp only[nR,fB,sU]
 congr 2
 simp only[Zh]
 split<;>simp_all<;>omega
theorem aiO:dn X h .eql 23 true .cI .cI=some (.bool true):=by kernel_rfl
theorem arC{C:aX}{h:U an}{k r cw:Nat}{a2:List (H×H×Nat)}{aj:bY}(a:ab C h r=some (.map a2 cw))(B:aj (.ptr k 0) (bm C h k (some (.hz (some r) cw [] cw))) (k+1)):gn (Rm C h k (.map r)) h k aj:=
 kI (by simp only[Rm,a,lq,li,gK]) B
theorem Gg{lM bS:U an->Prop}{oC:Prop}(Ib:Si (∀h,lM h->bS h)->oC)(RG:∀h,lM h->bS h):oC:=Ib ⟨RG⟩
theorem aoY:∀{l:List Go.bh.Node}{B I:Int},qD l=some (B,I)->B=30\/B=22:=by
 intro l
 induction l with
 |nil=>intro B I a;cases a
 |cons g l ah=>
  intro B I a
  unfold qD at a
  split at a
  ·cases a;exact .inl rfl
  ·split at a
   ·cases a;exact .inr rfl
   ·exact ah a
theorem aqz{s:a1}(aH:s.length<=5000){B I:Int}(a:AI s= .error (B,I)):B≠0:=by
 have M:=abn aH
 rw[a]at M
 unfold AJ at M
 split at M
 ·cases M
 ·cases M;decide
 ·split at M
  ·cases M
  ·cases M;decide
  ·split at M
   ·rename_i aE
    cases M
    unfold rM at aE
    split at aE
    ·cases aE;decide
    ·rcases aoY aE with rfl|rfl<;>decide
   ·cases M
structure So(X:cD)(et:U an)(I:Nat)(ok:Bool)(N:a1->Option Int)(h:U an)(n:Nat):Prop where
 le:I+3<=n
 ok:mL X h I ok
 nodes:jV X h (I+1) (gR N)
 cell:ao X h (.ptr (I+2) 0)=some (.map (I+1))
 low:∀j,j<I->ab X h j=ab X et j
set_option maxRecDepth 100000 in
theorem aoE(
 aA:iD X)(eJ:FG X)(gz:vg X)(akP:r9 X)(akQ:yk X)(X9:(y X).hf 16 []=some (.bool true)){a0 be:H}{om s:a1}(aS:(y X).bj<=k)(aE:eF a0=some (.int .i64 (om.length:Int)))(aH:s.length<=5000)(ai:∀c∈s,c<256)
 (nv:x7 X h 1 a0 none (some (.int .i64 (min (om.length:Int) 5000))) none=some be)(sN:eF be=some (.int .i64 (s.length:Int)))(BP:∀V aY,bB X h k V aY->yB X V be=some (.str s)):
 a6 X 3 [a0] h k (λad V av=>ad= .bool (Ly s)/\bB X h k V av) (λ_ _ _=>False):=by
 refine dj (afN X) (aA.none _ _ rfl) ?_
 rw[afO]
 unfold TS
 refine e8 @aE @apu @nv ⟨?_⟩
 refine(aqv aA eJ gz aH ai aS sN BP).Zm ?_
 rintro ad bb aQ ⟨B5,b8⟩
 have jB:=b8.le
 unfold Ly
 cases y9:AI s with
 |error ji=>
  rw[y9]at B5
  obtain⟨B,I⟩:=ji
  have vU:=aqz aH y9
  have aZ:ad= .tuple [.cI, .agg [.int .i64 B, .int .i64 I]]:=B5
  subst aZ
  have bl:decide (B≠0)=true:=by simp[vU]
  refine dc @bl @aiO ⟨?_⟩
  refine Gc X9 ?_
  refine c0 ⟨?_⟩
  exact⟨rfl,Zo,λj T=>by simp(disch:=omega) only[aK];exact b8.af j T⟩
 |ok aC=>
  rw[y9]at B5
  obtain⟨v,rfl,y8⟩:=B5
  obtain⟨anu,dv,qv⟩:=aqA y9
  obtain⟨b,bx,cN,b6,rfl,ale,fK,dp,l1⟩:=id y8
  have BM:=ale.2
  have bl:decide ((0:Int)≠0)=false:=rfl
  have l4:=l1.wide
  have fw:=dp.len
  rw[l4.1]at fw
  refine dc @bl @N4 ⟨?_⟩
  generalize dI:bm X _ (aQ+1+1+1) _=aV
  have b9:mL X aV (aQ+1) true:=⟨_,by rw[<-dI];simp(disch:=omega) only[aK,bq];rfl,rfl⟩
  have b3:ab X aV (aQ+1+1)=some (.map [] 0):=by rw[<-dI];simp(disch:=omega) only[aK,bq]
  have g3:ao X aV (.ptr (aQ+1+1+1) 0)=some (.map (aQ+1+1)):=by rw[<-dI,pX Zo];rfl
  have ct:bB X bb aQ aV (aQ+1+3):=by rw[<-dI];exact dR
  clear dI
  have akV:So X aV (aQ+1) true (λ_=>none) aV (aQ+1+3):=⟨Zj _,b9,⟨[],0,b3,λ_=>rfl⟩,g3,λ_ _=>rfl⟩
  have lX:bB X h k aV (aQ+1+3):=b8.trans ct
  generalize aG:aQ+1=I at*
  have qz:∀j,ef k aQ j->ab X aV j=ab X bb j:=λj T=>ct.af j T.2
  rw[<-ct.fy _ _ BM]at fK
  clear b9 b3 g3
  refine dc @fK @fw ⟨?_⟩
  refine f8 (λm J V aY=>∃(aa:Nat),kw b I (I+2) bx aC.length aa J/\aa+m=aC.length/\So X aV I ((aC.zipIdx.take aa).foldl rK (true,λ_=>none)).1 ((aC.zipIdx.take aa).foldl rK (true,λ_=>none)).2 V aY)
   aC.length ⟨0,⟨bv,bv,bv,bv,bv,gL⟩,Zo,akV⟩ ?_
  rintro m J bo bw ⟨aa,aT,bK,lB⟩
  have jf:=lB.le
  have n9:∀j,ef k aQ j->ab X bo j=ab X bb j:=λj T=>by have:=T.2;rw[lB.low j Zo,qz j T]
  cases m with
  |zero=>
   have d:decide ((aa:Int)<(aC.length:Int))=false:=by simp only[Zb];omega
   rw[ZN (by simp;omega)]at lB
   have dg:=lB.ok.m1
   refine iJ @aT.GB @aT.GA @aT.g3 @aT.g5 @d @dg ⟨?_⟩
   refine(ahz (k:=bw+10) (h:=bo) aA eJ.err akP akQ Zo (y8.af (bR:=ef k aQ) n9 (λ_ a=>a)) (λj T=>by have:=T.2;omega) anu dv qv).Zm ?_
   rintro ad bX dd ⟨rfl,dN⟩
   have XD:=(lB.ok.af (dN.af _ Zo)).m1
   have jC:=dN.le
   have h4:bB X h k bX dd:=⟨Zo,λj T=>by rw[dN.af j Zo,lB.low j Zo,lX.af j T]⟩
   have XE:((aC.zipIdx).foldl rK (true,λ_=>none)).1=Ip aC:=rfl
   rw[XE]at dg XD
   rw[XE]
   generalize ay:decide ((Bl aC).1=0)=c
   generalize Ip aC=ok at*
   refine hk @ay @ahh @aT.g5 @XD ⟨?_⟩
   refine jH (by simp[H.same]) ?_
   cases DY:(c==ok)with
   |false=>
    refine c0 ⟨?_⟩
    exact⟨rfl,h4⟩
   |true=>
    refine w6 ⟨?_⟩
    refine Gc X9 ?_
    refine c0 ⟨?_⟩
    exact⟨rfl,h4⟩
  |succ m=>
   have d:decide ((aa:Int)<(aC.length:Int))=true:=by simp only[Zh];omega
   have BE:=(QF qv).1
   have bF:aL .add (.int .i64 (aa:Int)) (.int .i64 1)=some (.int .i64 ((aa+1:Nat):Int)):=by rw[eQ Zo Zo];rfl
   obtain⟨g,rs⟩:∃g,aC[aa]? =some g:=⟨_,Zf Zo⟩
   have cV:=qn rK (true,λ_=>none) (I0 rs)
   obtain⟨row,fN,lC⟩:=l1.get aa g rs
   have eG:=dp.ik aa (by rw[l4.1];omega)
   have mx:=(dp.af n9).row Zd fN
   have kC:=lC.kl
   have Eb:=lC
   obtain⟨dk,dK,jj,fG,dr,eu,eI,jZ,mF,rfl,ru,rv,rx,ms,e2⟩:=lC
   have dD:=(lo ru.len).1
   have d2:=(lo rv.len).1
   have gQ:=(lo rx.len).1
   have ih:ey [.aU, .aU, .aU] [(0,1,dk),(1,1,dK),(2,1,jj)]=some (.agg [dk,dK,jj]):=by
    simp[ey,pr,ps,lu,dD,d2,gQ]
   generalize WA:(aC.zipIdx.take aa).foldl rK (true,λ_=>none)=Fv at lB cV
   obtain⟨ok,N⟩:=Fv
   simp only at lB
   refine iJ @aT.GB @aT.GA @aT.J9 @d @eG @mx ⟨?_⟩
   refine fH (iO (B:=6) (b:=bw) (W:=0) (n:=6) (c:=U.ofList [.str [], .int .i64 0, .aU, .aU, .aU, .aU] 0 .nil) (bq Zo) Zo rfl Zd Zd kC) ?_
   generalize hw:bm X _ bw _=bX
   have ec:ab X bX bw=some (.cells (U.ofList [.str g.name, .int .i64 g.at_,dk,dK,jj,fG] 0 .nil) 6 .own):=by rw[<-hw,bq Zo];rfl
   have eK:∀j,j<bw->ab X bX j=ab X bo j:=λj T=>by rw[<-hw];simp(disch:=omega) only[aK]
   clear hw
   have EY:ao X bX (.ptr (I+2) 0)=some (.map (I+1)):=by rw[c4,eK _ Zo, <-c4];exact lB.cell
   have QX:=lB.nodes.af (eK _ Zo)
   have LY:=lB.ok.af (eK _ Zo)
   have H7:=LY.m1
   have hx:=LG QX g.name
   have P6:∃kN,(N g.name).isSome=kN:=⟨_,rfl⟩
   obtain⟨kN,Lj⟩:=P6
   rw[Lj]at hx
   apply Gg (lM:=λV=>mL X V I (ok&& !kN)/\∀j,j≠I->ab X V j=ab X bX j)
   ·intro m0
    rcases Yh ok with dg|dg
    ·rw[dg]at H7
     refine iJ @aT.g6 @aT.g5 @EY (bW ec) @hx @H7 ⟨?_⟩
     refine LY.st Zo (v:= !kN) λb4 cb b1=> ?_
     exact m0.out b4 ⟨by rw[dg,zn];exact cb,b1⟩
    ·rw[dg]at H7
     refine iJ @aT.g6 @aT.g5 @EY (bW ec) @hx @H7 ⟨?_⟩
     refine LY.st Zo (v:=false) λb4 cb b1=> ?_
     exact m0.out b4 ⟨by rw[dg,Bool.false_and];exact cb,b1⟩
   rintro b4 ⟨abb,eR⟩
   rw[<-eR _ Zo]at ec
   have aa3:=QX.af (eR _ Zo)
   rw[show ao X bX (.ptr (I+2) 0)=ao X b4 (.ptr (I+2) 0) by rw[c4,c4,eR _ Zo]]at EY
   clear H7 LY QX hx
   refine rg (bW ec) ⟨?_⟩
   refine fH ih ?_
   generalize hJ:bm X _ (bw+1+1+1) _=ck
   have td:ab X ck (bw+1)=some (.map [] 0):=by rw[<-hJ];simp(disch:=omega) only[aK,bq]
   have MA:ao X ck (.ptr (bw+1+1) 0)=some (.map (bw+1)):=by rw[<-hJ,sV Zo Zo,pX Zo];rfl
   have kX:ab X ck (bw+1+1+1)=some (.map [] 0):=by rw[<-hJ];simp(disch:=omega) only[aK,bq]
   have ed:∀j,j<bw+1->ab X ck j=ab X b4 j:=λj T=>by rw[<-hJ];simp(disch:=omega) only[aK]
   clear hJ
   rw[<-ed _ Zo]at ec
   have aa4:=aa3.af (ed _ Zo)
   rw[show ao X b4 (.ptr (I+2) 0)=ao X ck (.ptr (I+2) 0) by rw[c4,c4,ed _ Zo]]at EY
   have abc:=abb.af (ed _ Zo)
   have xL:∀j,ef k aQ j->ab X ck j=ab X bb j:=λj T=>by have:=T.2;rw[ed j Zo,eR j Zo,eK j Zo,n9 j T]
   have aaE:∀j,j<I->ab X ck j=ab X aV j:=λj T=>by rw[ed j Zo,eR j Zo,eK j Zo,lB.low j T]
   clear ed eR eK aa3 abb
   generalize Qb:bw+1=ff at*
   generalize P9:ff+1=iP at*
   generalize auU:iP+1=fF at*
   have h3:kv X ck (fF+1) I ff fF (ok&& !kN) (λ_=>none) (λ_=>none) ck (fF+1):=⟨Zj _,abc,sa.new td,⟨[],0,kX,λ_=>rfl⟩,λ_ _ _ _ _=>rfl⟩
   clear td kX abc
   have Ca:∀B,B<3->∃s b,[dk,dK,jj][B]? =some s/\ej X bb (ef k aQ) b s 8 ((jI g B).map eO):=by
    intro B aP
    match B,aP with
    |0,_=>exact⟨dk,dr,rfl,ru⟩
    |1,_=>exact⟨dK,eu,rfl,rv⟩
    |2,_=>exact⟨jj,eI,rfl,rx⟩
   have Qn:∀{ok ak L V aY},kv X ck (fF+1) I ff fF ok ak L V aY->∀j,ef k aQ j->ab X V j=ab X bb j:=λa j T=>by have:=T.2;rw[a.low j Zo Zo Zo Zo,xL j T]
   refine gh ?_
   refine f8 (λm J V aY=>∃(B:Nat),kw b I (I+2) bx aC.length aa J/\k5 aa bw iP fF kN J/\J.g 80=some (.agg [dk,dK,jj])/\J.g 81=some (.int .i64 (B:Int))/\B+m=3
    /\kv X ck (fF+1) I ff fF (((eC g).take (mB g B)).foldl k1 (ok&& !kN,λ_=>none)).1 (((eC g).take (mB g B)).foldl k1 (ok&& !kN,λ_=>none)).2 (λ_=>none) V aY)
    3 ⟨0,by(repeat refine kw.set ?_ Zd);exact aT,⟨bv,bv,bv,bv,bv⟩,bv,gL,Zo,h3⟩ ?_
   clear aT
   rintro ee J cC ew ⟨B,aT,gD,C3,wv,aP,jx⟩
   have oX:=jx.le
   cases ee with
   |zero=>
    have d:decide ((B:Int)<3)=false:=by simp only[Zb];omega
    have n1:B=3:=Zo
    subst n1
    rw[<-JT,YQ]at jx
    generalize hl:(eC g).foldl k1 (ok&& !kN,λ_=>none)=es at jx
    have J8:ab X cC bw=some (.cells (U.ofList [.str g.name, .int .i64 g.at_,dk,dK,jj,fG] 0 .nil) 6 .own):=by rw[jx.low _ Zo Zo Zo Zo];exact ec
    refine gd @wv @d @gD.g11 @gD.g8 (bW J8) ⟨?_⟩
    refine fH ih ?_
    generalize OW:bm X _ ew _=nO
    have Vv:ao X nO (.ptr ew 0)=some (.func (.func 17) [] [.ptr iP 0]):=by rw[<-OW,pX Zo];rfl
    have Ap:∀j,j<ew->ab X nO j=ab X cC j:=λj T=>by rw[<-OW];simp(disch:=omega) only[aK]
    clear OW
    have DT:=jx.af (aV:=nO) (bp:=ew+1) Zo Zo Zo Zo Ap
    have H8:=DT.low
    have akS:kv X nO (ew+1) I ff fF es.1 es.2 (λ_=>none) nO (ew+1):=⟨Zj _,DT.ok,DT.vars,DT.left,λ_ _ _ _ _=>rfl⟩
    rw[<-Ap _ Zo]at J8
    have R9:ao X nO (.ptr iP 0)=some (.map ff):=by rw[c4,H8 _ Zo Zo Zo Zo, <-c4];exact MA
    have aaV:ao X nO (.ptr (I+2) 0)=some (.map (I+1)):=by rw[c4,H8 _ Zo Zo Zo Zo, <-c4];exact EY
    have aa5:=aa4.af (H8 (I+1) Zo Zo Zo Zo)
    have aog:∀j,ef k aQ j->ab X nO j=ab X bb j:=Qn DT
    have apb:∀j,j<I->ab X nO j=ab X aV j:=λj T=>by rw[H8 j Zo Zo Zo Zo,aaE j T]
    have Lt:∀{ok ak L V aY},kv X nO (ew+1) I ff fF ok ak L V aY->∀j,ef k aQ j->ab X V j=ab X bb j:=λa j T=>by have:=T.2;rw[a.low j Zo Zo Zo Zo,aog j T]
    clear H8 DT jx h3 Qn ec MA EY aa4 aaE xL Ap n9 eG mx
    generalize XA:ew+1=Cu at*
    generalize auv:ew=lg at*
    refine c0 ⟨?_⟩
    refine f8 (λm J V aY=>∃(B:Nat),kw b I (I+2) bx aC.length aa J/\k5 aa bw iP fF kN J/\J.g 19=some (.ptr lg 0)/\J.g 120=some (.agg [dk,dK,jj])/\J.g 121=some (.int .i64 (B:Int))/\B+m=3
     /\kv X nO Cu I ff fF (((eC g).take (mB g B)).foldl (qT es.2) es.1) es.2 (λ_=>none) V aY)
     3 ⟨0,by(repeat refine kw.set ?_ Zd);exact aT,by(repeat refine k5.set ?_ Zd);exact gD,bv,bv,gL,Zo,akS⟩ ?_
    clear aT gD C3 wv
    rintro ee J cC ew ⟨B,aT,gD,jS,CY,AU,aP,jx⟩
    have oX:=jx.le
    cases ee with
    |zero=>
     have d:decide ((B:Int)<3)=false:=by simp only[Zb];omega
     have n1:B=3:=Zo
     subst n1
     rw[<-JT,YQ]at jx
     generalize dl:(eC g).foldl (qT es.2) es.1=ku at jx
     have ajG:ab X cC bw=some (.cells (U.ofList [.str g.name, .int .i64 g.at_,dk,dK,jj,fG] 0 .nil) 6 .own):=by rw[jx.low _ Zo Zo Zo Zo];exact J8
     have δ:=e2.wide
     have Xu:=ms.len
     have amg:=ms.many
     rw[δ.1]at Xu amg
     refine gd @AU @d @gD.g8 (bW ajG) @Xu ⟨?_⟩
     refine f8 (λm J V aY=>∃(ar:Nat),kw b I (I+2) bx aC.length aa J/\k5 aa bw iP fF kN J/\J.g 19=some (.ptr lg 0)/\J.g 145=some fG/\J.g 146=some (.int .i64 (g.eqs.length:Int))/\J.g 147=some (.int .i64 (ar:Int))/\ar+m=g.eqs.length
      /\kv X nO Cu I ff fF ((g.eqs.take ar).foldl (p5 es.2 N) (ku,λ_=>none)).1 es.2 ((g.eqs.take ar).foldl (p5 es.2 N) (ku,λ_=>none)).2 V aY
      /\∀w,0<=(((g.eqs.take ar).foldl (p5 es.2 N) (ku,λ_=>none)).2 w).getD 0/\(((g.eqs.take ar).foldl (p5 es.2 N) (ku,λ_=>none)).2 w).getD 0<=(ar:Int)*1048576)
      g.eqs.length ⟨0,by(repeat refine kw.set ?_ Zd);exact aT,by(repeat refine k5.set ?_ Zd);exact gD,bn jS,bv,bv,gL,Zo,jx,λw=>Zs⟩ ?_
     clear aT gD jS CY AU
     rintro ee J dQ fa ⟨ar,aT,gD,jS,CZ,AV,AW,cf,gf,mq⟩
     have vV:=gf.le
     cases ee with
     |zero=>
      have d:decide ((ar:Int)<(g.eqs.length:Int))=false:=by simp only[Zb];omega
      rw[ZN Zo]at gf
      clear mq
      generalize en:g.eqs.foldl (p5 es.2 N) (ku,λ_=>none)=lK at gf
      have atu:ao X dQ (.ptr iP 0)=some (.map ff):=by rw[c4,gf.low _ Zo Zo Zo Zo, <-c4];exact R9
      obtain⟨ca,cw,nn,Xv⟩:=gf.vars
      have xE:∀E∈ca,∃dx,es.2 E.1=some dx/\E.2.1= .int .i64 dx:=by
       intro E aW
       have M:=ao8 nn.keys aW
       rw[Xv]at M
       unfold gR at M
       cases cf:es.2 E.1 with
       |none=>rw[cf]at M;cases M
       |some dx=>rw[cf]at M;exact⟨dx,rfl,(Yi M).symm⟩
      refine gd @AW @AV @d @gD.g11 @atu ⟨?_⟩
      refine arC nn.at_ ?_
      generalize kT:bm X dQ fa _=dL
      have anZ:ab X dL fa=some (.hz (some ff) cw [] cw):=by rw[<-kT,bq Zo]
      have gm:∀j,j<fa->ab X dL j=ab X dQ j:=λj T=>by rw[<-kT];simp(disch:=omega) only[aK]
      clear kT
      have mS:=gf.af (aV:=dL) (bp:=fa+1) Zo Zo Zo Zo gm
      refine gh ?_
      refine f8 (λm J V aY=>∃(seen:List Nat) (CF:Bool),kw b I (I+2) bx aC.length aa J/\k5 aa bw iP fF kN J/\J.g 175=some (.ptr fa 0)/\(ca.filter λE=>decide (E.2.2∉seen)).length=m
       /\ab X V fa=some (.hz (some ff) cw seen cw)/\ab X V ff=ab X dQ ff/\fa+1<=aY/\(seen=[]\/ca≠[])/\kv X nO Cu I ff fF CF es.2 lK.2 V aY
       /\(CF=true↔lK.1=true/\∀E∈ca,E.2.2∈seen->CG es.2 lK.2 E.1 ((es.2 E.1).getD 0)))
       (ca.filter λE=>decide (E.2.2∉([]:List Nat))).length ⟨[],lK.1,by(repeat refine kw.set ?_ Zd);exact aT,by(repeat refine k5.set ?_ Zd);exact gD,bv,rfl,anZ,gm _ Zo,Zo, .inl rfl,mS,Zs⟩ ?_
      clear aT gD jS CZ AV AW
      rintro ee J jW xR ⟨seen,CF,aT,gD,AX,vX,Pn,γ,B1,Cc,jc,X7⟩
      have Xr:=jc.le
      have Wx:FI X jW ff ca cw:=⟨by rw[γ];exact nn.at_,nn.keys,nn.born,nn.lr⟩
      refine cx @AX ⟨?_⟩
      refine Im Zo Wx Pn Cc (λhm=> ?_) (λE aW l1=> ?_)
      ·have amt:CF=EI N ok g:=by
        have M:EI N ok g=(lK.1&&Jp es.2 lK.2):=by
         unfold EI
         rw[<-Lj]at hl
         simp only[hl,dl,en]
        rw[M,ZY,X7,Zk,Uo]
        refine and_congr_right λ_=>⟨λa w B bL=> ?_,λa E aW _=> ?_⟩
        ·have R:o4 ca w=some (.int .i64 B):=by rw[Xv];unfold gR;rw[bL];rfl
         obtain⟨E,aW,rfl,_⟩:=ao9 R
         have:=a E aW (hm E aW)
         rw[bL]at this
         exact this
        ·obtain⟨dx,pH,_⟩:=xE E aW
         rw[pH]
         exact a E.1 dx pH
       have LS:=aa5.af (jc.low (I+1) Zo Zo Zo Zo)
       have Ij:ao X jW (.ptr (I+2) 0)=some (.map (I+1)):=by rw[c4,jc.low _ Zo Zo Zo Zo, <-c4];exact aaV
       have aks:ab X jW bw=some (.cells (U.ofList [.str g.name, .int .i64 g.at_,dk,dK,jj,fG] 0 .nil) 6 .own):=by rw[jc.low _ Zo Zo Zo Zo];exact J8
       have aaF:∀j,j<I->ab X jW j=ab X aV j:=λj T=>by rw[jc.low j Zo Zo Zo Zo,apb j T]
       rw[amt]at jc
       cases kN with
       |true=>
        refine e8 @gD.g10 @aT.GB @bF ⟨?_⟩
        refine⟨m,Zo,aa+1,⟨bn aT.g3,bn aT.g5,bn aT.g6,bn aT.J9,bn aT.GA,bv⟩,Zo, ?_⟩
        rw[cV]
        simp only[rK,H3,Lj,ZB]
        exact⟨Zo,jc.ok,LS,Ij,aaF⟩
       |false=>
        refine iJ @gD.g10 @aT.g6 @Ij @gD.g8 (bW aks) @gD.g7 ⟨?_⟩
        obtain⟨et,mX,OI,y2⟩:=EX (k:=xR) (show(y X).bj<=I+1 by omega) LS g.name (.int .i64 (aa:Int))
        refine kI mX ?_
        refine dc @aT.GB @bF ⟨?_⟩
        refine⟨m,Zo,aa+1,⟨bn aT.g3,bn aT.g5,bn aT.g6,bn aT.J9,bn aT.GA,bv⟩,Zo, ?_⟩
        rw[cV]
        simp only[rK,H3,Lj]
        refine⟨Zo,jc.ok.af (y2 _ Zo), ?_,by rw[c4,y2 _ Zo, <-c4];exact Ij,λj T=>by rw[y2 j Zo];exact aaF j T⟩
        have:(λx=>if x=g.name then some (H.int .i64 (aa:Int))else gR N x)=gR λw=>if w=g.name then some (aa:Int)else N w:=by
         funext x;unfold gR;by_cases a:x=g.name<;>simp[a]
        simp only[Zt,Zx]
        rw[<-this];exact OI
      ·obtain⟨dx,pH,sL⟩:=xE E aW
       rw[sL]
       generalize OX:bm X jW fa _=Bc
       have ψ:ab X Bc fa=some (.hz (some ff) cw (seen++[E.2.2]) cw):=by rw[<-OX,bq Zo]
       have Ar:∀j,j≠fa->ab X Bc j=ab X jW j:=λj T=>by rw[<-OX,aK Zo T]
       clear OX
       have tO:kv X nO Cu I ff fF CF es.2 lK.2 Bc xR:=⟨Xr,jc.ok.af (Ar _ Zo),jc.vars.af (Ar _ Zo),jc.left.af (Ar _ Zo),λj M R au aM=>by rw[Ar j Zo];exact jc.low j M R au aM⟩
       have akY:FI X Bc ff ca cw:=⟨by rw[Ar _ Zo];exact Wx.at_,nn.keys,nn.born,nn.lr⟩
       have BU:=aiu akY aW ψ
       rw[sL]at BU
       have xp:=aaz tO.left E.1
       have Au:=tO.ok.m1
       generalize DY:(lK.2 E.1).getD 0=cc at xp
       apply Gg (lM:=λV=>mL X V I (CF&&((decide (0<dx)&&decide (cc=0))||(decide (dx=0)&&decide (cc=1))))/\∀j,j≠I->ab X V j=ab X Bc j)
       ·intro m0
        rcases Yh CF with dg|dg
        ·rw[dg]at Au
         by_cases vU:0<dx
         ·have mn:decide (0<dx)=true:=by simp[vU]
          have ni:decide (dx=0)=false:=by simp only[Zb];omega
          by_cases vN:cc=0
          ·have tw:decide (cc=0)=true:=by simp[vN]
           refine e0 @AX @BU @aT.g5 @Au @gD.g12 @xp (Za @mn @tw) ⟨?_⟩
           refine tO.ok.st Zo (v:=true) λnP cb b1=> ?_
           exact m0.out nP ⟨by rw[dg,mn,tw];exact cb,b1⟩
          ·have tw:decide (cc=0)=false:=by simp[vN]
           refine e0 @AX @BU @aT.g5 @Au @gD.g12 @xp (Za @mn (Za @tw @ni)) ⟨?_⟩
           refine tO.ok.st Zo (v:=false) λnP cb b1=> ?_
           exact m0.out nP ⟨by rw[dg,mn,tw,ni];exact cb,b1⟩
         ·have mn:decide (0<dx)=false:=by simp only[Zb];exact vU
          by_cases cj:dx=0
          ·have ni:decide (dx=0)=true:=by simp[cj]
           by_cases vO:cc=1
           ·have tw:decide (cc=1)=true:=by simp[vO]
            refine e0 @AX @BU @aT.g5 @Au @gD.g12 @xp (Za @mn (Za @ni @tw)) ⟨?_⟩
            refine tO.ok.st Zo (v:=true) λnP cb b1=> ?_
            exact m0.out nP ⟨by rw[dg,mn,ni,tw];exact cb,b1⟩
           ·have tw:decide (cc=1)=false:=by simp[vO]
            refine e0 @AX @BU @aT.g5 @Au @gD.g12 @xp (Za @mn (Za @ni @tw)) ⟨?_⟩
            refine tO.ok.st Zo (v:=false) λnP cb b1=> ?_
            exact m0.out nP ⟨by rw[dg,mn,ni,tw];exact cb,b1⟩
          ·have ni:decide (dx=0)=false:=by simp[cj]
           refine e0 @AX @BU @aT.g5 @Au @gD.g12 @xp (Za @mn @ni) ⟨?_⟩
           refine tO.ok.st Zo (v:=false) λnP cb b1=> ?_
           exact m0.out nP ⟨by rw[dg,mn,ni];exact cb,b1⟩
        ·rw[dg]at Au
         refine hk @AX @BU @aT.g5 @Au ⟨?_⟩
         refine tO.ok.st Zo (v:=false) λnP cb b1=> ?_
         exact m0.out nP ⟨by rw[dg];exact cb,b1⟩
       rintro nP ⟨Q3,EE⟩
       have OU:=tO.Mp (bp:=xR) Zo Zo (Zj _) Q3 EE
       refine c0 ⟨?_⟩
       refine⟨_, ?_,seen++[E.2.2],_,by(repeat refine kw.set ?_ Zd);exact aT,by(repeat refine k5.set ?_ Zd);exact gD,bn AX,rfl,by rw[EE _ Zo];exact ψ,by rw[EE _ Zo,Ar _ Zo];exact γ,B1, .inr (λa=>by rw[a]at aW;cases aW),OU, ?_⟩
       ·rw[<-vX]
        have KJ:(ca.filter λgk=>decide (gk.2.2∉seen++[E.2.2]))=(ca.filter λgk=>decide (gk.2.2∉seen)).filter λgk=>decide (gk.2.2≠E.2.2):=by
         rw[List.filter_filter]
         refine zr λx _=> ?_
         simp only[Zw,List.mem_singleton,Y0,Bool.decide_and]
         rw[Bool.and_comm]
        rw[KJ]
        refine List.length_filter_lt_length_iff_exists.2 ⟨E,Yu.2 ⟨aW,by simpa using l1⟩,Zs⟩
       ·have mv:((decide (0<dx)&&decide (cc=0))||(decide (dx=0)&&decide (cc=1)))=true↔CG es.2 lK.2 E.1 dx:=by
         unfold CG
         rw[DY]
         simp only[YN,Zk,Zh]
        rw[Zk,X7,mv]
        constructor
        ·rintro⟨⟨M,R⟩,au⟩
         refine⟨M,λgk D1 n0=> ?_⟩
         rcases Zw.1 n0 with n0|n0
         ·exact R gk D1 n0
         ·simp at n0
          have aM:=Oa nn.born aW
          have bA:=Oa nn.born D1
          rw[n0,aM]at bA
          have cr:E.1=gk.1:=by
           have:=Yi bA
           simp only[i7,YJ,H.str.injEq]at this
           exact this.1
          rw[<-cr,pH]
          exact au
        ·rintro⟨M,R⟩
         refine⟨⟨M,λgk D1 n0=>R gk D1 (List.mem_append_left _ n0)⟩, ?_⟩
         have:=R E aW Zs
         rw[pH]at this
         exact this
     |succ ee=>
      have d:decide ((ar:Int)<(g.eqs.length:Int))=true:=by simp only[Zh];omega
      have bF:aL .add (.int .i64 (ar:Int)) (.int .i64 1)=some (.int .i64 ((ar+1:Nat):Int)):=by rw[eQ Zo Zo];rfl
      obtain⟨eq,WX⟩:∃eq,g.eqs[ar]? =some eq:=⟨_,Zf Zo⟩
      obtain⟨aq4,PP,xw⟩:=e2.get ar eq WX
      have Po:=ms.ik ar (by rw[δ.1];omega)
      have am4:=(ms.af (Lt gf)).row Zd PP
      obtain⟨qK,s6,auc,aud,ko,rfl,hN,mw,n4,pM⟩:=xw
      have ue:=hN.len
      have Aa:=hN.many
      rw[show(hX eq.left).length=eq.left.length from by simp[hX]]at ue Aa
      have P2:=qn (p5 es.2 N) (ku,λ_=>none) WX
      generalize aun:(g.eqs.take ar).foldl (p5 es.2 N) (ku,λ_=>none)=AZ at gf P2 mq
      refine iJ @AW @AV @CZ @d @Po @am4 ⟨?_⟩
      refine fH (iO (B:=4) (b:=fa) (W:=0) (n:=4) (c:=U.ofList [.aU, .aU, .int .i64 0, .cI] 0 .nil) (bq Zo) Zo rfl Zd Zd pM) ?_
      generalize kT:bm X _ fa _=dL
      have jv:ab X dL fa=some (.cells (U.ofList [qK,s6, .int .i64 eq.at_,ko] 0 .nil) 4 .own):=by rw[<-kT,bq Zo];rfl
      have gm:∀j,j<fa->ab X dL j=ab X dQ j:=λj T=>by rw[<-kT];simp(disch:=omega) only[aK]
      clear kT
      have mS:=gf.af (aV:=dL) (bp:=fa+1) Zo Zo Zo Zo gm
      refine dc (bW jv) @ue ⟨?_⟩
      refine f8 (λm J V aY=>∃(i:Nat),kw b I (I+2) bx aC.length aa J/\k5 aa bw iP fF kN J/\J.g 19=some (.ptr lg 0)/\J.g 145=some fG/\J.g 146=some (.int .i64 (g.eqs.length:Int))/\J.g 147=some (.int .i64 (ar:Int))/\J.g 25=some (.ptr fa 0)/\J.g 152=some qK/\J.g 153=some (.int .i64 (eq.left.length:Int))/\J.g 154=some (.int .i64 (i:Int))/\i+m=eq.left.length
       /\kv X nO Cu I ff fF ((eq.left.take i).foldl (pW es.2) AZ).1 es.2 ((eq.left.take i).foldl (pW es.2) AZ).2 V aY/\(∀w,0<=(((eq.left.take i).foldl (pW es.2) AZ).2 w).getD 0/\(((eq.left.take i).foldl (pW es.2) AZ).2 w).getD 0<=(ar:Int)*1048576+i)
       /\fa+1<=aY/\ab X V fa=some (.cells (U.ofList [qK,s6, .int .i64 eq.at_,ko] 0 .nil) 4 .own))
       eq.left.length ⟨0,by(repeat refine kw.set ?_ Zd);exact aT,by(repeat refine k5.set ?_ Zd);exact gD,bn jS,bn CZ,bn AV,bn AW,bv,bv,bv,gL,Zo,mS,λw=>by simpa using mq w,Zo,jv⟩ ?_
      clear aT gD jS CZ AV AW
      rintro fz J jW xR ⟨i,aT,gD,jS,CZ,AV,AW,qQ,aca,RO,RP,aN,jc,G6,B1,ek⟩
      have Xr:=jc.le
      have Vw:ao X jW (.ptr lg 0)=some (.func (.func 17) [] [.ptr iP 0]):=by rw[c4,jc.low _ Zo Zo Zo Zo, <-c4];exact Vv
      have acx:ao X jW (.ptr iP 0)=some (.map ff):=by rw[c4,jc.low _ Zo Zo Zo Zo, <-c4];exact R9
      cases fz with
      |zero=>
       have cG:decide ((i:Int)<(eq.left.length:Int))=false:=by simp only[Zb];omega
       rw[ZN Zo]at jc G6
       have Ij:ao X jW (.ptr (I+2) 0)=some (.map (I+1)):=by rw[c4,jc.low _ Zo Zo Zo Zo, <-c4];exact aaV
       have LS:=aa5.af (jc.low (I+1) Zo Zo Zo Zo)
       refine e0 @RP @RO @cG @qQ (bW ek) @aT.g5 (Za @jS @aT.g6) ⟨?_⟩
       refine(acD (X:=X) aA.tod7 (oz es.2 N) (ef k aQ) (Jd X jW xR I) 19 [] [.ptr I 0, .ptr lg 0, .ptr (I+2) 0] (λs E v V aY vH aW=> ?_) (SizeOf.sizeOf eq.right+1) eq.right Zo _ ko jW xR ⟨Zj _,jc.ok,λ_ _ _=>rfl⟩ (cP.af (Lt jc) _ _ n4)).Zm ?_
       ·exact atM aA.tod7 Zo Zo Zo ⟨Zo,Zo⟩ ⟨Zo,Zo⟩ ⟨Zo,Zo⟩ ⟨Zo,Zo⟩ ⟨Zo,Zo⟩ Vw acx jc.vars.LJ Ij LS vH aW (λj T=>by have:=T.2;exact⟨Zo,Zo⟩)
       rintro ad Bc apC ⟨rfl,vH,_⟩
       have auR:=vH.le
       have tO:kv X nO Cu I ff fF (uV (oz es.2 N) ((eq.left.foldl (pW es.2) AZ).1) eq.right) es.2 (eq.left.foldl (pW es.2) AZ).2 Bc apC:=
        ⟨Zo,vH.ok,jc.vars.af (vH.low _ Zo Zo),jc.left.af (vH.low _ Zo Zo),λj M R au aM=>by rw[vH.low j Zo R];exact jc.low j M R au aM⟩
       refine dc @AW @bF ⟨?_⟩
       refine⟨ee,Zo,ar+1,by(repeat refine kw.set ?_ Zd);exact aT,by(repeat refine k5.set ?_ Zd);exact gD,bn jS,bn CZ,bn AV,bv,Zo, ?_, ?_⟩
       ·rw[P2];exact tO
       ·rw[P2]
        intro w
        have:=G6 w
        simp only[p5]
        constructor
        ·exact this.1
        ·have R:=this.2
         push_cast
         omega
      |succ fz=>
       have cG:decide ((i:Int)<(eq.left.length:Int))=true:=by simp only[Zh];omega
       have cB:aL .add (.int .i64 (i:Int)) (.int .i64 1)=some (.int .i64 ((i+1:Nat):Int)):=by rw[eQ Zo Zo];rfl
       obtain⟨w,bL⟩:∃w,eq.left[i]? =some w:=⟨_,Zf Zo⟩
       have Xd:=hN.ik i (by simp[hX];omega)
       have WO:=(hN.af (Lt jc)).cell i [.str w] 0 (.str w) (by unfold hX;rw[Zv,bL];rfl) rfl
       rw[Yd]at Xd
       rw[Yd,ZS]at WO
       have HE:=qn (pW es.2) AZ bL
       generalize Wz:(eq.left.take i).foldl (pW es.2) AZ=jk at jc HE G6
       have WL:=G6 w
       have al8:=aaz jc.left w
       have fh:aL .add (.int .i64 ((jk.2 w).getD 0)) (.int .i64 1)=some (.int .i64 ((jk.2 w).getD 0+1)):=eQ Zo Zo
       refine e0 @RP @RO @aca @cG @Xd @WO (Za @gD.g12 (Za @al8 @fh)) ⟨?_⟩
       obtain⟨et,mX,OI,y2⟩:=EX (k:=xR) (show(y X).bj<=fF by omega) jc.left w (.int .i64 ((jk.2 w).getD 0+1))
       refine kI mX ?_
       have akG:jV X et fF (gR λx=>if x=w then some ((jk.2 w).getD 0+1)else jk.2 x):=by
        have:(λx=>if x=w then some (H.int .i64 ((jk.2 w).getD 0+1))else gR jk.2 x)=gR λx=>if x=w then some ((jk.2 w).getD 0+1)else jk.2 x:=by
         funext x;unfold gR;by_cases a:x=w<;>simp[a]
        rw[<-this];exact OI
       have jM:=jc.Mo (bp:=xR) Zo Zo (Zj _) akG y2
       have akr:ab X et fa=some (.cells (U.ofList [qK,s6, .int .i64 eq.at_,ko] 0 .nil) 4 .own):=by rw[y2 _ Zo];exact ek
       have ai3:ao X et (.ptr lg 0)=some (.func (.func 17) [] [.ptr iP 0]):=by rw[c4,y2 _ Zo, <-c4];exact Vw
       have R8:ao X et (.ptr iP 0)=some (.map ff):=by rw[c4,y2 _ Zo, <-c4];exact acx
       have LF:=jM.ok.m1
       apply Gg (lM:=λV=>mL X V I (jk.1&&(es.2 w).isSome)/\∀j,j≠I->ab X V j=ab X et j)
       ·intro m0
        rcases Yh jk.1 with dg|dg
        ·rw[dg]at LF
         refine hk @aT.g5 @LF @jS @ai3 ⟨?_⟩
         refine(Qq aA.tod7 R8 jM.vars.LJ w).Zm ?_
         rintro ad atX avR ⟨rfl,rfl,rfl⟩
         refine cx @aT.g5 ⟨?_⟩
         refine jM.ok.st Zo (v:=(es.2 w).isSome) λnP cb b1=> ?_
         exact m0.out nP ⟨by rw[dg,zn];exact cb,b1⟩
        ·rw[dg]at LF
         refine dc @aT.g5 @LF ⟨?_⟩
         refine jM.ok.st Zo (v:=false) λnP cb b1=> ?_
         exact m0.out nP ⟨by rw[dg,Bool.false_and];exact cb,b1⟩
       rintro nP ⟨Q3,EE⟩
       have OU:=jM.Mp (bp:=xR) Zo Zo (Zj _) Q3 EE
       refine dc @RP @cB ⟨?_⟩
       refine⟨fz,Zo,i+1,by(repeat refine kw.set ?_ Zd);exact aT,by(repeat refine k5.set ?_ Zd);exact gD,bn jS,bn CZ,bn AV,bn AW,bn qQ,bn aca,bn RO,bv,Zo, ?_, ?_,B1,by rw[EE _ Zo];exact akr⟩
       ·rw[HE];exact OU
       ·rw[HE]
        intro x
        have ag:=G6 x
        simp only[pW]
        split
        ·simp only[Yw];push_cast;omega
        ·push_cast;omega
    |succ ee=>
     have d:decide ((B:Int)<3)=true:=by simp only[Zh];omega
     obtain⟨fZ,ea,pO,xz⟩:=Ca B Zo
     have D6:pV false 3 1 (.agg [dk,dK,jj]) (.int .i64 (B:Int))=some fZ:=by
      have au:Nat.blt B 3=true:=by simp[Nat.blt];omega
      simp only[pV,p2,au,eB,iF,m5,Yd]
      exact pO
     have Hm:=xz.len
     have Px:=xz.many
     rw[Zu]at Hm Px
     refine gd @AU @CY @d @D6 @Hm ⟨?_⟩
     refine f8 (λm J V aY=>∃(i:Nat),kw b I (I+2) bx aC.length aa J/\k5 aa bw iP fF kN J/\J.g 19=some (.ptr lg 0)/\J.g 120=some (.agg [dk,dK,jj])/\J.g 121=some (.int .i64 (B:Int))/\J.g 124=some fZ/\J.g 125=some (.int .i64 ((jI g B).length:Int))/\J.g 126=some (.int .i64 (i:Int))/\i+m=(jI g B).length
      /\kv X nO Cu I ff fF (((eC g).take (mB g B+i)).foldl (qT es.2) es.1) es.2 (λ_=>none) V aY)
      (jI g B).length ⟨0,by(repeat refine kw.set ?_ Zd);exact aT,by(repeat refine k5.set ?_ Zd);exact gD,bn jS,bn CY,bn AU,bv,bv,gL,Zo,jx⟩ ?_
     clear aT gD jS CY AU
     rintro fz J dQ fa ⟨i,aT,gD,jS,CY,AU,ab9,RM,RN,aN,gf⟩
     have vV:=gf.le
     cases fz with
     |zero=>
      have d:decide ((i:Int)<((jI g B).length:Int))=false:=by simp only[Zb];omega
      have bF:aL .add (.int .i64 (B:Int)) (.int .i64 1)=some (.int .i64 ((B+1:Nat):Int)):=by rw[eQ Zo Zo];rfl
      refine gd @RN @RM @AU @d @bF ⟨?_⟩
      refine⟨ee,Zo,B+1,by(repeat refine kw.set ?_ Zd);exact aT,by(repeat refine k5.set ?_ Zd);exact gD,bn jS,bn CY,bv,Zo, ?_⟩
      rw[Q1 g Zo]
      have:i=(jI g B).length:=Zo
      rw[<-this]
      exact gf
     |succ fz=>
      have d:decide ((i:Int)<((jI g B).length:Int))=true:=by simp only[Zh];omega
      have bF:aL .add (.int .i64 (i:Int)) (.int .i64 1)=some (.int .i64 ((i+1:Nat):Int)):=by rw[eQ Zo Zo];rfl
      obtain⟨aB,aI⟩:∃aB,(jI g B)[i]? =some aB:=⟨_,Zf Zo⟩
      have rz:=xz.ik i (by rw[Zu];omega)
      have HB:=(xz.af (Lt gf)).row (i:=i) (r:=eO aB) Zd (by rw[Zv,aI];rfl)
      have je:eO aB=[.str aB.name, .int .i64 aB.at_, .bool aB.ty.b, .bool aB.ty.s, .int .i64 aB.ty.w, .str aB.on, .int .i64 aB.fP, .bool aB.no]:=rfl
      rw[je]at HB
      have ug:=qn (qT es.2) es.1 (N1 g (B:=B) Zo aI)
      rw[ZO]at ug
      generalize fV:((eC g).take (mB g B+i)).foldl (qT es.2) es.1=bS at gf ug
      refine iJ @RN @RM @ab9 @d @rz @HB ⟨?_⟩
      generalize kT:bm X _ fa _=dL
      have jv:ab X dL fa=some (.cells (U.ofList [.str aB.name, .int .i64 aB.at_, .bool aB.ty.b, .bool aB.ty.s, .int .i64 aB.ty.w, .str aB.on, .int .i64 aB.fP, .bool aB.no] 0 .nil) 8 .own):=by rw[<-kT,bq Zo];rfl
      have gm:∀j,j<fa->ab X dL j=ab X dQ j:=λj T=>by rw[<-kT];simp(disch:=omega) only[aK]
      clear kT
      have mS:=gf.af (aV:=dL) (bp:=fa+1) Zo Zo Zo Zo gm
      have MB:ao X dL (.ptr iP 0)=some (.map ff):=by rw[c4,mS.low _ Zo Zo Zo Zo, <-c4];exact R9
      have ai2:ao X dL (.ptr lg 0)=some (.func (.func 17) [] [.ptr iP 0]):=by rw[c4,mS.low _ Zo Zo Zo Zo, <-c4];exact Vv
      have wb:=mS.ok.m1
      apply Gg (lM:=λV=>mL X V I (qT es.2 bS (1+(B:Int),aB))/\∀j,j≠I->ab X V j=ab X dL j)
      ·intro m0
       rcases Yh bS with dg|dg
       ·rw[dg]at wb
        by_cases oY:aB.on=[]
        ·have cG:decide (aB.on=[])=true:=by simp[oY]
         refine hk @aT.g5 (bW jv) @wb @cG ⟨?_⟩
         refine mS.ok.st Zo (v:=true) λet cb b1=> ?_
         exact m0.out et ⟨by unfold qT;rw[dg,cG];exact cb,b1⟩
        ·have cG:decide (aB.on=[])=false:=by simp[oY]
         refine iJ @aT.g5 (bW jv) @wb @cG @jS @ai2 ⟨?_⟩
         refine(Qq aA.tod7 MB mS.vars.LJ aB.on).Zm ?_
         rintro ad jW av ⟨rfl,rfl,rfl⟩
         refine cx @aT.g5 ⟨?_⟩
         refine mS.ok.st Zo (v:=(es.2 aB.on).isSome) λet cb b1=> ?_
         exact m0.out et ⟨by unfold qT;rw[dg,cG];exact cb,b1⟩
       ·rw[dg]at wb
        refine e8 @aT.g5 (bW jv) @wb ⟨?_⟩
        refine mS.ok.st Zo (v:=false) λet cb b1=> ?_
        exact m0.out et ⟨by unfold qT;rw[dg];exact cb,b1⟩
      rintro et ⟨Q2,ji⟩
      have jM:=mS.Mp (bp:=fa+1) Zo Zo (Zj _) Q2 ji
      refine dc @RN @bF ⟨?_⟩
      refine⟨fz,Zo,i+1,by(repeat refine kw.set ?_ Zd);exact aT,by(repeat refine k5.set ?_ Zd);exact gD,bn jS,bn CY,bn AU,bn ab9,bn RM,bv,Zo, ?_⟩
      rw[ug]
      exact jM
   |succ ee=>
    have d:decide ((B:Int)<3)=true:=by simp only[Zh];omega
    obtain⟨fZ,ea,pO,xz⟩:=Ca B Zo
    have D6:pV false 3 1 (.agg [dk,dK,jj]) (.int .i64 (B:Int))=some fZ:=by
     have au:Nat.blt B 3=true:=by simp[Nat.blt];omega
     simp only[pV,p2,au,eB,iF,m5,Yd]
     exact pO
    have Hm:=xz.len
    have Px:=xz.many
    rw[Zu]at Hm Px
    refine gd @wv @C3 @d @D6 @Hm ⟨?_⟩
    refine f8 (λm J V aY=>∃(i:Nat),kw b I (I+2) bx aC.length aa J/\k5 aa bw iP fF kN J/\J.g 80=some (.agg [dk,dK,jj])/\J.g 81=some (.int .i64 (B:Int))/\J.g 13=some (.int .i64 (B:Int))/\J.g 85=some fZ/\J.g 86=some (.int .i64 ((jI g B).length:Int))/\J.g 87=some (.int .i64 (i:Int))/\i+m=(jI g B).length
     /\kv X ck (fF+1) I ff fF (((eC g).take (mB g B+i)).foldl k1 (ok&& !kN,λ_=>none)).1 (((eC g).take (mB g B+i)).foldl k1 (ok&& !kN,λ_=>none)).2 (λ_=>none) V aY)
     (jI g B).length ⟨0,by(repeat refine kw.set ?_ Zd);exact aT,by(repeat refine k5.set ?_ Zd);exact gD,bn C3,bn wv,bv,bv,bv,gL,Zo,jx⟩ ?_
    clear aT gD C3 wv
    rintro fz J dQ fa ⟨i,aT,gD,C3,wv,lv,acd,RX,RY,aN,gf⟩
    have vV:=gf.le
    cases fz with
    |zero=>
     have d:decide ((i:Int)<((jI g B).length:Int))=false:=by simp only[Zb];omega
     have bF:aL .add (.int .i64 (B:Int)) (.int .i64 1)=some (.int .i64 ((B+1:Nat):Int)):=by rw[eQ Zo Zo];rfl
     refine gd @RY @RX @wv @d @bF ⟨?_⟩
     refine⟨ee,Zo,B+1,by(repeat refine kw.set ?_ Zd);exact aT,by(repeat refine k5.set ?_ Zd);exact gD,bn C3,bv,Zo, ?_⟩
     rw[Q1 g Zo]
     have:i=(jI g B).length:=Zo
     rw[<-this]
     exact gf
    |succ fz=>
     have d:decide ((i:Int)<((jI g B).length:Int))=true:=by simp only[Zh];omega
     have bF:aL .add (.int .i64 (i:Int)) (.int .i64 1)=some (.int .i64 ((i+1:Nat):Int)):=by rw[eQ Zo Zo];rfl
     obtain⟨aB,aI⟩:∃aB,(jI g B)[i]? =some aB:=⟨_,Zf Zo⟩
     have rz:=xz.ik i (by rw[Zu];omega)
     have HB:=(xz.af (Qn gf)).row (i:=i) (r:=eO aB) Zd (by rw[Zv,aI];rfl)
     have je:eO aB=[.str aB.name, .int .i64 aB.at_, .bool aB.ty.b, .bool aB.ty.s, .int .i64 aB.ty.w, .str aB.on, .int .i64 aB.fP, .bool aB.no]:=rfl
     rw[je]at HB
     have ug:=qn k1 (ok&& !kN,λ_=>none) (N1 g (B:=B) Zo aI)
     rw[ZO]at ug
     generalize fV:((eC g).take (mB g B+i)).foldl k1 (ok&& !kN,λ_=>none)=bS at gf ug
     refine iJ @RY @RX @acd @d @rz @HB ⟨?_⟩
     generalize kT:bm X _ fa _=dL
     have jv:ab X dL fa=some (.cells (U.ofList [.str aB.name, .int .i64 aB.at_, .bool aB.ty.b, .bool aB.ty.s, .int .i64 aB.ty.w, .str aB.on, .int .i64 aB.fP, .bool aB.no] 0 .nil) 8 .own):=by rw[<-kT,bq Zo];rfl
     have gm:∀j,j<fa->ab X dL j=ab X dQ j:=λj T=>by rw[<-kT];simp(disch:=omega) only[aK]
     clear kT
     have mS:=gf.af (aV:=dL) (bp:=fa+1) Zo Zo Zo Zo gm
     have MB:ao X dL (.ptr iP 0)=some (.map ff):=by rw[c4,mS.low _ Zo Zo Zo Zo, <-c4];exact MA
     have Xt:=LG mS.vars.LJ aB.name
     have wb:=mS.ok.m1
     apply Gg (lM:=λV=>mL X V I (bS.1&& !(bS.2 aB.name).isSome)/\∀j,j≠I->ab X V j=ab X dL j)
     ·intro m0
      rcases Yh bS.1 with dg|dg
      ·rw[dg]at wb
       refine iJ @gD.g11 @aT.g5 @MB (bW jv) @Xt @wb ⟨?_⟩
       refine mS.ok.st Zo (v:= !(bS.2 aB.name).isSome) λet cb b1=> ?_
       exact m0.out et ⟨by rw[dg,zn];exact cb,b1⟩
      ·rw[dg]at wb
       refine iJ @gD.g11 @aT.g5 @MB (bW jv) @Xt @wb ⟨?_⟩
       refine mS.ok.st Zo (v:=false) λet cb b1=> ?_
       exact m0.out et ⟨by rw[dg,Bool.false_and];exact cb,b1⟩
     rintro et ⟨Q2,ji⟩
     rw[<-ji _ Zo]at jv
     have jM:=mS.Mp (bp:=fa+1) Zo Zo (Zj _) Q2 ji
     have R8:ao X et (.ptr iP 0)=some (.map ff):=by rw[c4,jM.low _ Zo Zo Zo Zo, <-c4];exact MA
     have anr:k1 bS (1+(B:Int),aB)=(bS.1&& !(bS.2 aB.name).isSome,λw=>if w=aB.name then some (if B=0 then 1 else 0)else bS.2 w):=by
      have M:(if (1+(B:Int):Int)=1 then(1:Int)else 0)=if B=0 then 1 else 0:=by
       by_cases a:B=0
       ·simp[a]
       ·rw[Zg a,Zg Zo]
      show(_,λw=>if w=aB.name then some (if (1+(B:Int):Int)=1 then(1:Int)else 0)else bS.2 w)=_
      rw[M]
     by_cases vU:B=0
     all_goals
      first
      |(have mn:decide ((B:Int)=0)=true:=by simp[vU])
      |(have mn:decide ((B:Int)=0)=false:=by simp[vU])
      refine gd @lv @gD.g11 @R8 (bW jv) @mn ⟨?_⟩
      obtain⟨T8,mX,akA,t2⟩:=apx (k:=fa+1) (show(y X).bj<=ff by omega) jM.vars aB.name (.int .i64 (if B=0 then 1 else 0))
      rw[show(H.int .i64 (if B=0 then 1 else 0))=_ from rfl]at mX
      simp only[vU,ZB,Zx]at mX
      refine kI mX ?_
      refine dc @RY @bF ⟨?_⟩
      refine⟨fz,Zo,i+1,by(repeat refine kw.set ?_ Zd);exact aT,by(repeat refine k5.set ?_ Zd);exact gD,bn C3,bn wv,bn lv,bn acd,bn RX,bv,Zo, ?_⟩
      rw[ug,anr]
      refine jM.ar3 Zo Zo Zo ?_ t2
      have:(λx=>if x=aB.name then some (H.int .i64 (if B=0 then 1 else 0))else gR bS.2 x)=gR λw=>if w=aB.name then some (if B=0 then 1 else 0)else bS.2 w:=by
       funext x;unfold gR;by_cases a:x=aB.name<;>simp[a]
      rw[<-this];exact akA
end
end
end Go.Proofs.YtpfajohmofnkfaaGreatDoor

namespace Go.Proofs.YtpfajohmofnkfaaGreatDoor
open Go.al Go.bh
noncomputable section
def lT(l:List (Int×el))(w:a1):Option Int:=(l.find? λx=>decide (x.2.name=w)).map Prod.fst
theorem J5(x:Int×el)(l:List (Int×el))(w:a1):lT (x::l) w=if x.2.name=w then some x.1 else lT l w:=by
 unfold lT
 rw[YT]
 by_cases a:x.2.name=w
 ·simp[a]
 ·simp[a]
theorem ajj{l:List (Int×el)}{w:a1}{B:Int}(a:lT l w=some B):∃x∈l,x.2.name=w/\x.1=B:=by
 unfold lT at a
 rw[Z0]at a
 obtain⟨x,M,R⟩:=a
 exact⟨x,List.mem_of_find?_eq_some M,by simpa using List.find?_some M,R⟩
theorem ajh{l:List (Int×el)}{w:a1}:(lT l w).isSome=true↔w∈l.map λx=>x.2.name:=by
 induction l with
 |nil=>simp[lT]
 |cons x l ah=>
  rw[J5,Zy,Zl]
  by_cases a:x.2.name=w
  ·simp[a]
  ·have:¬w=x.2.name:=λE=>a E.symm
   simp[a,this,ah]
theorem aji{l:List (Int×el)}(aS:(l.map λx=>x.2.name).Nodup){x:Int×el}(ag:x∈l):lT l x.2.name=some x.1:=by
 induction l with
 |nil=>cases ag
 |cons j l ah=>
  rw[Zy,YO]at aS
  rw[J5]
  rcases Zl.1 ag with rfl|ag
  ·simp
  ·have:¬j.2.name=x.2.name:=λE=>aS.1 (E▸YP (f:=λx:Int×el=>x.2.name) ag)
   rw[Zg this]
   exact ah aS.2 ag
theorem aqm:∀(l:List (Int×el)) (s:(a1->Option f1)×List a1) (w:a1),((l.foldl s4 s).1 w).map f1.kind=if (s.1 w).isSome then(s.1 w).map f1.kind else lT l w:=by
 intro l
 induction l with
 |nil=>intro s w;cases a:s.1 w<;>simp[lT,a]
 |cons x l ah=>
  intro s w
  rw[ZL,ah,J5]
  unfold s4
  by_cases ag:(s.1 x.2.name).isSome=true
  ·rw[Zr ag]
   by_cases bL:(s.1 w).isSome=true
   ·simp[bL]
   ·have:¬x.2.name=w:=λE=>bL (E▸ag)
    simp[bL,this]
  ·rw[Zg ag]
   simp only[]
   by_cases sQ:w=x.2.name
   ·subst sQ
    simp[ag]
   ·have:¬x.2.name=w:=λE=>sQ E.symm
    simp only[sQ,this,Zx]
theorem aqn(B:Nat)(t:a1->Option f1)(x:a1×Nat)(w:a1):(rU B t x w).map f1.kind=(t w).map f1.kind:=by
 unfold rU
 cases a:t x.1 with
 |none=>rfl
 |some v=>
  simp only[]
  split
  ·by_cases bL:w=x.1
   ·subst bL;simp[a]
   ·simp[bL]
  ·rfl
theorem aqo(x:fg×Nat)(w:a1):∀(l:List (a1×Nat)) (t:a1->Option f1),((l.foldl (rU x.2) t) w).map f1.kind=(t w).map f1.kind:=by
 intro l
 induction l with
 |nil=>intro t;rfl
 |cons I l ah=>intro t;rw[ZL,ah,aqn]
theorem RZ(g:Go.bh.Node)(w:a1):(hB g w).map f1.kind=lT (eC g) w:=by
 have a:∀(l:List (fg×Nat)) (t:a1->Option f1),((l.foldl E7 t) w).map f1.kind=(t w).map f1.kind:=by
  intro l
  induction l with
  |nil=>intro t;rfl
  |cons I l ah=>intro t;rw[ZL,ah];exact aqo I w _ t
 unfold hB
 rw[a]
 have:=aqm (eC g) (λ_=>none,[]) w
 simpa[o7]using this
theorem R0(g:Go.bh.Node)(w:a1):(hB g w).isSome=(lT (eC g) w).isSome:=by rw[<-RZ];cases hB g w<;>rfl
theorem ath:∀(l:List (Int×el)) (ok:Bool) (ak:a1->Option Int),(l.foldl k1 (ok,ak)).1=true↔ok=true/\(l.map λx=>x.2.name).Nodup/\∀x∈l,ak x.2.name=none:=by
 intro l
 induction l with
 |nil=>intro ok ak;simp
 |cons x l ah=>
  intro ok ak
  rw[ZL,show k1 (ok,ak) x=((k1 (ok,ak) x).1,(k1 (ok,ak) x).2) from rfl,ah]
  simp only[k1,Zk,Bool.not_eq_true',Option.isSome_eq_false_iff,Option.isNone_iff_eq_none,Zy,YO,Zl,zk,ZD,not_exists,not_and]
  constructor
  ·rintro⟨⟨M,R⟩,au,aM⟩
   refine⟨M,⟨λj T E=> ?_,au⟩,R,λj T=> ?_⟩
   ·have:=aM j T
    rw[Zr E]at this
    cases this
   ·have:=aM j T
    split at this
    ·cases this
    ·exact this
  ·rintro⟨M,⟨R,au⟩,aM,bA⟩
   refine⟨⟨M,aM⟩,au,λj T=> ?_⟩
   rw[Zg (R j T)]
   exact bA j T
theorem ati:∀(l:List (Int×el)) (ok:Bool) (ak:a1->Option Int),(l.map λx=>x.2.name).Nodup->∀w,(l.foldl k1 (ok,ak)).2 w=match lT l w with|some B=>some (if B=1 then 1 else 0)|none=>ak w:=by
 intro l
 induction l with
 |nil=>intro ok ak _ w;rfl
 |cons x l ah=>
  intro ok ak aS w
  rw[Zy,YO]at aS
  rw[ZL,show k1 (ok,ak) x=((k1 (ok,ak) x).1,(k1 (ok,ak) x).2) from rfl,ah _ _ aS.2,J5]
  by_cases a:x.2.name=w
  ·subst a
   have:lT l x.2.name=none:=by
    cases cf:lT l x.2.name with
    |none=>rfl
    |some B=>
     have R:(lT l x.2.name).isSome=true:=by rw[cf];rfl
     exact absurd (ajh.1 R) aS.1
   rw[this]
   simp[k1]
  ·have cv:¬w=x.2.name:=λE=>a E.symm
   rw[Zg a]
   cases lT l w with
   |none=>simp[k1,cv]
   |some B=>rfl
theorem atj(ak:a1->Option Int):∀(l:List (Int×el)) (ok:Bool),(l.foldl (qT ak) ok)=true↔ok=true/\∀x∈l,x.2.on=[]\/(ak x.2.on).isSome=true:=by
 intro l
 induction l with
 |nil=>intro ok;simp
 |cons x l ah=>
  intro ok
  rw[ZL,ah]
  simp[qT,and_assoc]
theorem aos(ak:a1->Option Int):∀(l:List a1) (s:Bool×(a1->Option Int)),(l.foldl (pW ak) s).1=true↔s.1=true/\∀w∈l,(ak w).isSome=true:=by
 intro l
 induction l with
 |nil=>intro s;simp
 |cons x l ah=>
  intro s
  rw[ZL,ah]
  simp[pW,and_assoc]
theorem aor(ak:a1->Option Int):∀(l:List a1) (s:Bool×(a1->Option Int)) (w:a1),((l.foldl (pW ak) s).2 w).getD 0=(s.2 w).getD 0+h2 w l:=by
 intro l
 induction l with
 |nil=>intro s w;simp[Ge]
 |cons x l ah=>
  intro s w
  rw[ZL,ah,Dx]
  simp only[pW]
  by_cases a:w=x
  ·subst a;simp;omega
  ·have cv:¬x=w:=λE=>a E.symm
   simp[a,cv]
def FT(ak N:a1->Option Int)(E:bM):Prop:=∀x∈CL E,(m3 x=true->(ak x.name).isSome=true)/\(x.kind=25->(N x.name).isSome=true)
theorem apD{x:bM}(a:x.kind=25):m3 x=false:=by simp[m3,a]
theorem atx(ak N:a1->Option Int)(E:bM)(ok:Bool):uV (oz ak N) ok E=true↔ok=true/\FT ak N E:=by
 unfold FT
 rw[Sa _ (λ_ _=>rfl)]
 generalize CL E=l
 induction l generalizing ok with
 |nil=>simp
 |cons x l ah=>
  rw[ZL,ah]
  have M:(oz ak N ok x).1=true↔ok=true/\(m3 x=true->(ak x.name).isSome=true)/\(x.kind=25->(N x.name).isSome=true):=by
   unfold oz
   by_cases aS:m3 x=true
   ·have:¬x.kind=25:=λa=>by rw[apD a]at aS;cases aS
    simp[aS,this]
   ·by_cases lW:x.kind=25
    ·simp[aS,lW]
    ·simp[aS,lW]
  rw[M]
  simp only[Zl,zk,and_assoc]
theorem aq1(ak N:a1->Option Int):∀(l:List fg) (s:Bool×(a1->Option Int)),(l.foldl (p5 ak N) s).1=true↔s.1=true/\(∀w∈l.flatMap fg.left,(ak w).isSome=true)/\∀ar∈l,FT ak N ar.right:=by
 intro l
 induction l with
 |nil=>intro s;simp
 |cons ar l ah=>
  intro s
  rw[ZL,ah]
  simp only[p5,atx,aos,Yr,Zw,Zl,zk]
  constructor
  ·rintro⟨⟨⟨M,R⟩,au⟩,aM,bA⟩
   exact⟨M,λw bL=>bL.elim (R w) (aM w),au,bA⟩
  ·rintro⟨M,R,au,aM⟩
   exact⟨⟨⟨M,λw bL=>R w (.inl bL)⟩,au⟩,λw bL=>R w (.inr bL),aM⟩
theorem aq0(ak N:a1->Option Int):∀(l:List fg) (s:Bool×(a1->Option Int)) (w:a1),((l.foldl (p5 ak N) s).2 w).getD 0=(s.2 w).getD 0+h2 w (l.flatMap fg.left):=by
 intro l
 induction l with
 |nil=>intro s w;simp[Ge]
 |cons ar l ah=>
  intro s w
  rw[ZL,ah,Yr,NG]
  simp only[p5]
  rw[aor]
  omega
theorem VG{nm:a1}:∀(l:List Go.bh.Node) (B aa:Nat),yK nm B l=some aa->B<=aa/\∃g,l[aa-B]? =some g/\g.name=nm:=by
 intro l
 induction l with
 |nil=>intro B aa a;cases a
 |cons g l ah=>
  intro B aa a
  unfold yK at a
  split at a
  ·rename_i bV;cases a;exact⟨Zj _,g,Zs,bV⟩
  ·obtain⟨M,pw,R,au⟩:=ah (B+1) aa a
   refine⟨Zo,pw, ?_,au⟩
   rw[show aa-B=(aa-(B+1))+1 by omega,ZF]
   exact R
theorem VF{nm:a1}:∀(l:List Go.bh.Node) (B i:Nat) (g:Go.bh.Node),l[i]? =some g->g.name=nm->∃aa,yK nm B l=some aa/\aa<=B+i:=by
 intro l
 induction l with
 |nil=>intro B i g a;simp at a
 |cons I l ah=>
  intro B i g a bV
  unfold yK
  by_cases aG:I.name=nm
  ·rw[Zr aG];exact⟨B,rfl,Zo⟩
  ·rw[Zg aG]
   cases i with
   |zero=>simp at a;subst a;exact absurd bV aG
   |succ i=>
    obtain⟨aa,M,R⟩:=ah (B+1) i g (by simpa using a) bV
    exact⟨aa,M,Zo⟩
def FJ(aC:List Go.bh.Node)(B:Nat)(N:a1->Option Int):Prop:=∀w,(N w).isSome=true↔∃aa,pt aC w=some aa/\aa<B
theorem FJ.step{aC:List Go.bh.Node}{B:Nat}{N:a1->Option Int}{g:Go.bh.Node}(a:FJ aC B N)(bV:aC[B]? =some g):FJ aC (B+1) (H3 N g B):=by
 intro w
 obtain⟨Ch,Pp,fX⟩:=VF aC 0 B g bV rfl
 have KS:pt aC g.name=some Ch:=Pp
 unfold H3
 by_cases aH:(N g.name).isSome=true
 ·rw[Zr aH,a w]
  constructor
  ·rintro⟨aa,M,R⟩;exact⟨aa,M,Zo⟩
  ·rintro⟨aa,M,R⟩
   refine⟨aa,M, ?_⟩
   by_cases Pq:aa=B
   ·obtain⟨_,pw,cb,b1⟩:=VG aC 0 aa M
    rw[YH,Pq,bV]at cb
    cases cb
    obtain⟨ny,dT,fc⟩:=(a g.name).1 aH
    rw[b1,M]at dT
    cases dT
    exact fc
   ·omega
 ·rw[Zg aH]
  by_cases bL:w=g.name
  ·subst bL
   simp only[ZB,Z4,true_iff]
   exact⟨Ch,KS,Zo⟩
  ·simp only[bL,Zx]
   rw[a w]
   constructor
   ·rintro⟨aa,M,R⟩;exact⟨aa,M,Zo⟩
   ·rintro⟨aa,M,R⟩
    refine⟨aa,M, ?_⟩
    by_cases Pq:aa=B
    ·obtain⟨_,pw,cb,b1⟩:=VG aC 0 aa M
     rw[YH,Pq,bV]at cb
     cases cb
     exact absurd b1.symm bL
    ·omega
theorem apS{aC:List Go.bh.Node}{B:Nat}{N:a1->Option Int}{g:Go.bh.Node}(jy:FJ aC B N)(bV:aC[B]? =some g)(ok:Bool):EI N ok g=true↔ok=true/\(o5 aC B g).1=0:=by
 obtain⟨Ch,Pp,fX⟩:=VF aC 0 B g bV rfl
 have KS:pt aC g.name=some Ch:=Pp
 have P6:(N g.name).isSome=true↔Ch<B:=by
  rw[jy,KS]
  exact⟨λ⟨aa,M,R⟩=>by cases M;exact R,λa=>⟨Ch,rfl,a⟩⟩
 unfold o5
 rw[atg,aq6 _ _ _ _ _ (λw=>Zs),ahS]
 have gr:(rP aC B g).1=0↔¬(N g.name).isSome=true:=by
  rw[P6]
  unfold rP
  rw[KS]
  simp only[Yw]
  by_cases a:Ch<B
  ·rw[Zr a]
   have:=yI (0,0) (c:=24) g.at_ Zd
   simp[a,this]
  ·rw[Zg a];simp[a]
 rw[gr]
 unfold EI
 simp only[Zk,Uo,aq1,atj,ath]
 by_cases ub:(QT g).Nodup
 ·have xf:∀w,((eC g).foldl k1 (ok&& !(N g.name).isSome,λ_=>none)).2 w=(lT (eC g) w).map λB=>if B=1 then 1 else 0:=by
   intro w
   rw[ati _ _ _ ub w]
   cases lT (eC g) w<;>rfl
  generalize ((eC g).foldl k1 (ok&& !(N g.name).isSome,λ_=>none)).2=ak at xf
  have Kx:∀w,(ak w).isSome=(lT (eC g) w).isSome:=λw=>by rw[xf];cases lT (eC g) w<;>rfl
  have gz:∀w,((g.eqs.foldl (p5 ak N) ((eC g).foldl (qT ak) ((eC g).foldl k1 (ok&& !(N g.name).isSome,λ_=>none)).1,λ_=>none)).2 w).getD 0=h2 w (g.eqs.flatMap fg.left):=by
   intro w;rw[aq0];simp
  generalize (g.eqs.foldl (p5 ak N) ((eC g).foldl (qT ak) ((eC g).foldl k1 (ok&& !(N g.name).isSome,λ_=>none)).1,λ_=>none)).2=L at gz
  have f5:∀w,((g.eqs.foldl (ls (hB g) aC B) (λ_=>none,sq (hB g) g (rP aC B g))).1 w).getD 0=h2 w (g.eqs.flatMap fg.left):=by
   intro w;rw[aq5];simp
  have jz:(∀ar∈g.eqs,FT ak N ar.right)↔∀ar∈g.eqs,Dd (hB g) aC B ar.right:=by
   refine Y1 λar=>Y1 λ_=> ?_
   unfold FT Dd
   refine Y1 λx=>Y1 λ_=> ?_
   rw[Kx,R0,jy]
  have ak0:(∀x∈eC g,x.2.on=[]\/(ak x.2.on).isSome=true)↔∀x∈eC g,¬(hB g x.2.on=none/\x.2.on≠[]):=by
   refine Y1 λx=>Y1 λ_=> ?_
   rw[Kx, <-R0]
   cases hB g x.2.on with
   |none=>simp
   |some v=>simp
  have Wi:((∀w∈g.eqs.flatMap fg.left,(ak w).isSome=true)/\Nk ak L)↔(∀w∈g.eqs.flatMap fg.left,∃v,hB g w=some v/\v.kind≠1/\(((λ_=>none:a1->Option Int)) w).getD 0+h2 w (g.eqs.flatMap fg.left)<=1)/\∀x∈eC g,¬(x.1≠1/\h2 x.2.name (g.eqs.flatMap fg.left)=0):=by
   simp only[Option.getD_none,Int.zero_add]
   constructor
   ·rintro⟨M,R⟩
    refine⟨λw bL=> ?_,λx ag cf=> ?_⟩
    ·have au:=M w bL
     rw[Kx]at au
     obtain⟨eE,oW⟩:=Option.isSome_iff_exists.1 au
     have aM:=RZ g w
     rw[oW]at aM
     obtain⟨v,bu,Qa⟩:=Z0.1 aM
     have bA:=R w (if eE=1 then 1 else 0) (by rw[xf,oW];rfl)
     unfold CG at bA
     rw[gz]at bA
     have cr:=Gd.2 bL
     refine⟨v,bu, ?_, ?_⟩
     ·intro E
      rw[Qa]at E
      rw[Zr E]at bA
      omega
     ·omega
    ·have au:=aji ub ag
     have bA:=R x.2.name (if x.1=1 then 1 else 0) (by rw[xf,au];rfl)
     unfold CG at bA
     rw[gz,Zg cf.1]at bA
     omega
   ·rintro⟨M,R⟩
    refine⟨λw bL=> ?_,λw eA Xj=> ?_⟩
    ·obtain⟨v,bu,_⟩:=M w bL
     rw[Kx, <-R0,bu];rfl
    ·rw[xf]at Xj
     obtain⟨eE,oW,rfl⟩:=Z0.1 Xj
     unfold CG
     rw[gz]
     obtain⟨x,ag,kD,Er⟩:=ajj oW
     have ci:=Bm w (g.eqs.flatMap fg.left)
     by_cases Kp:eE=1
     ·rw[Zr Kp]
      left
      refine⟨Zd, ?_⟩
      by_cases ay:0<h2 w (g.eqs.flatMap fg.left)
      ·obtain⟨v,bu,Qa,_⟩:=M w (Gd.1 ay)
       have aM:=RZ g w
       rw[bu,oW]at aM
       exact absurd ((Yi aM).trans Kp) Qa
      ·omega
     ·rw[Zg Kp]
      right
      refine⟨rfl, ?_⟩
      have au:=R x ag
      rw[kD,Er]at au
      have ay:0<h2 w (g.eqs.flatMap fg.left):=by
       rcases Int.lt_or_lt_of_ne (λE=>au ⟨Kp,E⟩)with a|a
       ·omega
       ·exact a
      obtain⟨v,_,_,bA⟩:=M w (Gd.1 ay)
      omega
  have OH:(∀x∈eC g,¬(x.1≠1/\((g.eqs.foldl (ls (hB g) aC B) (λ_=>none,sq (hB g) g (rP aC B g))).1 x.2.name).getD 0=0))↔∀x∈eC g,¬(x.1≠1/\h2 x.2.name (g.eqs.flatMap fg.left)=0):=by
   refine Y1 λx=>Y1 λ_=> ?_
   rw[f5]
  rw[OH, <-ak0, <-jz]
  have amn:((eC g).map λx=>x.2.name).Nodup:=ub
  simp only[ub,amn,zf,Bool.not_eq_true',implies_true,Z8]
  constructor
  ·rintro⟨⟨⟨⟨M,R⟩,au⟩,aM,bA⟩,cr⟩
   obtain⟨cb,b1⟩:=Wi.1 ⟨aM,cr⟩
   exact⟨M,⟨⟨by simp[R],au⟩,cb,bA⟩,b1⟩
  ·rintro⟨M,⟨⟨R,au⟩,aM,bA⟩,cr⟩
   obtain⟨cb,b1⟩:=Wi.2 ⟨aM,cr⟩
   exact⟨⟨⟨⟨M,by simpa using R⟩,au⟩,cb,bA⟩,b1⟩
 ·constructor
  ·rintro⟨⟨⟨⟨_,a,_⟩,_⟩,_⟩,_⟩
   exact absurd a ub
  ·rintro⟨_,⟨⟨_,a,_⟩,_⟩,_⟩
   exact absurd a ub
theorem ahy(aC:List Go.bh.Node):∀(l:List Go.bh.Node) (B:Nat),aC.drop B=l->((Bk aC B l).1=0↔∀i g,B<=i->aC[i]? =some g->(o5 aC i g).1=0):=by
 intro l
 induction l with
 |nil=>
  intro B aP
  rw[List.drop_eq_nil_iff]at aP
  simp only[Bk,true_iff]
  intro i g aN bV
  have:=(Zc.1 bV).1
  omega
 |cons g l ah=>
  intro B aP
  have W8:aC[B]? =some g:=by
   have:=congrArg (λl=>l[0]?) aP
   simpa using this
  have aE:aC.drop (B+1)=l:=by
   have:=congrArg List.tail aP
   simpa using this
  rw[Bk]
  by_cases cj:(o5 aC B g).1=0
  ·rw[Zg (by simp[cj]),ah (B+1) aE]
   constructor
   ·intro a i pw aN qt
    by_cases alZ:i=B
    ·subst alZ;rw[W8]at qt;cases qt;exact cj
    ·exact a i pw Zo qt
   ·intro a i pw aN qt
    exact a i pw Zo qt
  ·rw[Zr cj]
   constructor
   ·intro a;exact absurd a cj
   ·intro a;exact absurd (a B g (Zj _) W8) cj
theorem ap4(aC:List Go.bh.Node):∀n,n<=aC.length->FJ aC n ((aC.zipIdx.take n).foldl rK (true,λ_=>none)).2/\(((aC.zipIdx.take n).foldl rK (true,λ_=>none)).1=true↔∀i g,i<n->aC[i]? =some g->(o5 aC i g).1=0):=by
 intro n
 induction n with
 |zero=>
  intro _
  refine⟨λw=> ?_, ?_⟩
  ·simp
  ·simp
 |succ n ah=>
  intro aS
  obtain⟨M,R⟩:=ah Zo
  obtain⟨g,bV⟩:∃g,aC[n]? =some g:=⟨_,Zf Zo⟩
  rw[qn rK _ (I0 bV)]
  generalize (aC.zipIdx.take n).foldl rK (true,λ_=>none)=s at M R
  refine⟨M.step bV, ?_⟩
  simp only[rK]
  rw[apS M bV,R]
  constructor
  ·rintro⟨cb,b1⟩ i pw aN qt
   by_cases n0:i=n
   ·subst n0;rw[bV]at qt;cases qt;exact b1
   ·exact cb i pw Zo qt
  ·intro a
   exact⟨λi pw aN qt=>a i pw Zo qt,a n g Zo bV⟩
theorem ap5(aC:List Go.bh.Node):Ip aC=decide ((Bl aC).1=0):=by
 have M:=(ap4 aC aC.length (Zj _)).2
 rw[ZN Zs]at M
 rw[ZY,Zh]
 unfold Ip Bl
 rw[M,ahy aC aC 0 rfl]
 constructor
 ·intro a i g _ bV
  exact a i g (Zc.1 bV).1 bV
 ·intro a i g _ bV
  exact a i g (ze _) bV
theorem aoD(s:a1):Ly s=true:=by
 unfold Ly
 split
 ·rfl
 ·rw[ap5];simp
end
end Go.Proofs.YtpfajohmofnkfaaGreatDoor

namespace Go.al
noncomputable section
open Go.RowKit (Below)
def Sr(l:List H):Prop:=∀v∈l,(∀K ia,aD K v=aD ia v)/\∀Z,b0 Z v
def C8(w:World)(v:Value)(bd:Nat)(l:List H):Prop:=
 (v= .slice none 0 0/\l=[])\/∃cq off len cap bU ty fr,v= .slice (some ⟨cq,off,none⟩) len cap/\len<=cap/\l.length=len*bd/\Sr l/\
  (0<l.length->w.heap[cq]? =some (.cells bU ty fr)/\off+l.length<=bU.size/\∀i x,l[i]? =some x->bU[off+i]? =some (aD (λ_=>default) x))
def acT(C:aX)(I:H)(b bd:Nat)(l:List H):Prop:=
 (I= .aU/\l=[])\/∃len cap,I= .slice b 0 len cap/\len<=cap/\l.length=len*bd/\(0<l.length->ab C .nil b=some (.cells (U.ofList l 0 .nil) l.length .jJ))
def wh(l:List H)(G:U an)(b:Nat):U an:=if 0<l.length then G.set b (some (.cells (U.ofList l 0 .nil) l.length .jJ))else G
theorem C8.pl{w:World}{v:Value}{bd:Nat}{l:List H}(a:C8 w v bd l)(b:Nat):∃(I:H) (pl:lN),(∀K:cY,K b=pl->aD K I=v)/\(∀Z:Nat->Prop,Z b->b0 Z I)/\
 ((I= .aU/\l=[])\/∃len cap,I= .slice b 0 len cap/\len<=cap/\l.length=len*bd)/\(0<l.length->∀C K Z,jn C K Z (.cells (U.ofList l 0 .nil) l.length .jJ) pl w):=by
 rcases a with ⟨rfl,rfl⟩|⟨cq,off,len,cap,bU,ty,fr,rfl,M,R,au,aM⟩
 ·exact⟨.aU,default,λ_ _=>rfl,λ_ _=>trivial, .inl ⟨rfl,rfl⟩,λa=>by simp at a⟩
 ·refine⟨.slice b 0 len cap,⟨cq,off,l.length⟩,λK dt=>by simp[aD,dt],λZ d=>d, .inr ⟨len,cap,rfl,M,R⟩,λa C K Z=> ?_⟩
  obtain⟨bN,cg,cH⟩:=aM a
  obtain⟨bP,aN⟩:=fr
  refine⟨bU,ty,bP,aN,bN,⟨trivial,Zj _,cg⟩,cg,λi x ag=> ?_⟩
  rw[kk]at ag
  have bi:=au x (Zp ag)
  exact⟨by rw[bi.1 K (λ_=>default)];exact cH i x ag,bi.2 Z⟩
section
variable{P:Program}{w:World}
theorem aoB{nm:List (String×Nat)}(jg:A5 P nm){laid:List (String×DataW Unit)}{hf:Nat->List H->Option H}(a:laidMet P laid w){bj:Nat}{os:List (Nat×an)}(aE:hy P nm laid P.globals.size=(bj,os)){v0:Value}{om:Nat}{fx:List H}(ci:C8 w v0 om fx):
 ∃K Z a0,cS ⟨P,wh fx (oo os .nil) bj,bj+1,hf,P.globals.size⟩ K Z .nil (bj+1) w.heap.size w/\q1 ⟨P,wh fx (oo os .nil) bj,bj+1,hf,P.globals.size⟩ K Z/\dW Z [a0]/\bI K [a0]=[v0]/\
  acT ⟨P,wh fx (oo os .nil) bj,bj+1,hf,P.globals.size⟩ a0 bj om fx:=by
 obtain⟨a0,E8,d1,jK,t0,j7⟩:=ci.pl bj
 obtain⟨c8,gz,_,kV⟩:=a
 have cj:q0 w c8:=λb off ai=>(kV b off ai).1
 obtain⟨be,b2,f,a3⟩:=aar (C:=⟨P,wh fx (oo os .nil) bj,bj+1,hf,P.globals.size⟩) jg laid P.globals.size c8 rfl gz cj (λb off ai=>(kV b off ai).2)
 rw[aE]at be b2 a3
 simp only at be b2 a3
 have eJ:∀b W,ab ⟨P,wh fx (oo os .nil) bj,bj+1,hf,P.globals.size⟩ .nil b=some W->((b,W)∈os/\b<bj)\/(b=bj/\0<fx.length/\W= .cells (U.ofList fx 0 .nil) fx.length .jJ):=by
  intro b W bc
  unfold ab at bc
  rw[fB]at bc
  split at bc
  ·rename_i ai
   have ai:=kd ai
   unfold wh at bc
   split at bc
   ·rename_i ax
    rw[U.kf]at bc
    split at bc
    ·rename_i E;cases bc;exact .inr ⟨E.symm▸rfl,ax,rfl⟩
    ·rcases Rw b W os .nil bc with ar|ar
     ·exact .inl ⟨ar,by have b1:b<P.globals.size\/b<bj:=(b2 (b,W) ar).2.1;have:P.globals.size<=bj:=be;omega⟩
     ·simp at ar
   ·rcases Rw b W os .nil bc with ar|ar
    ·exact .inl ⟨ar,by have b1:b<P.globals.size\/b<bj:=(b2 (b,W) ar).2.1;have:P.globals.size<=bj:=be;omega⟩
    ·simp at ar
  ·simp at bc
 refine⟨λb=>if b<P.globals.size then⟨b,0,0⟩else if b=bj then E8 else f b,λb=>b<bj+1,a0,⟨Zj _,λ_ a=>a,λb W bc=> ?_, ?_, ?_, ?_, ?_⟩, ?_, ?_, ?_, ?_⟩
 ·rcases eJ b W bc with a|a
  ·omega
  ·omega
 ·intro b W bc _
  rcases eJ b W bc with a|⟨rfl,ax,rfl⟩
  ·exact a3 (λb=>if b<P.globals.size then⟨b,0,0⟩else if b=bj then E8 else f b) (λb=>b<bj+1) (λb M R=>⟨by rw[Zg Zo,Zg Zo],Zo⟩) (λg bV=>⟨by rw[Zr bV],by have:P.globals.size<=bj:=be;omega⟩) (b,W) a.1
  ·show jn _ _ _ _ (if b<P.globals.size then(⟨b,0,0⟩:lN)else if b=b then E8 else f b) w
   rw[Zg (by have:P.globals.size<=b:=be;omega),Zr rfl]
   exact j7 ax _ _ _
 ·intro b ea W o' _ _ d _ _ ai
  exact absurd d (zu.2 ai)
 ·intro b W ai _ d
  exact absurd d (zu.2 ai)
 ·intro b W bc _
  rcases eJ b W bc with a|⟨rfl,ax,rfl⟩
  ·exact(b2 (b,W) a.1).2.2 _ _
  ·refine⟨λc n l aE=>(by cases aE),λc n st ay i v bu=> ?_⟩
   cases ay
   rw[kk]at bu
   exact(Zc.1 bu).1
 ·intro g bV
  have bV:g<P.globals.size:=bV
  exact⟨Zo,by simp[bV],by simp[bV]⟩
 ·exact⟨jK _ Zo,trivial⟩
 ·simp only[bI]
  rw[d1 _ (by rw[Zg Zo,Zr rfl])]
 ·rcases t0 with a|⟨len,cap,cb,b1,dT⟩
  ·exact .inl a
  ·refine .inr ⟨len,cap,cb,b1,dT,λa=> ?_⟩
   unfold ab wh
   have:Nat.blt bj (bj+1)=true:=by simp[Nat.blt]
   rw[this,eB,Zr a,U.kf,Zr rfl]
end
end
end Go.al

