/- Part of the proof of the last text; no conditions -/
import Derived.Test.YtpeabpmnlmaabaaGreatDoorYn
set_option maxHeartbeats 8000000
set_option linter.all false
namespace Go.Proofs.YtpeabpmnlmaabaaGreatDoor
open Go.bd Go.aT
noncomputable section
def rb(g:Go.aT.Node)(iy:Bool):List eF:=if iy then g.d4 else g.d4++g.out
def lf(g:Go.aT.Node):List eF:=g.d4++(g.out++g.loc)
def C1(g:Go.aT.Node):Nat:=(kL g).length+1
def xv(t:aY->Option c8)(n:Nat)(d:eF):Bool:=decide ((pH t n [] (jm d)).getLast?≠some lh)
def mJ(t:aY->Option c8)(n:Nat)(g:Go.aT.Node)(iy:Bool):Int×Int:=match (rb g iy).find? λd=>decide (d.on≠[])with
 |some d=>(27,d.et)
 |none=>match (lf g).find? (xv t n)with
  |some d=>(25,d.et)
  |none=>(0,0)
def adY{α:Type}{p:α->Bool}{l:List α}{S:Nat}(a:l.find? p=(l.drop S).find? p)(bE:l.length<=S):l.find? p=none:=by
 rw[a,ZC bE];rfl
def adX{α:Type}{p:α->Bool}{l:List α}{S:Nat}{x:α}(a:l.find? p=(l.drop S).find? p)(ae:l[S]? =some x)(aw:p x=false):l.find? p=(l.drop (S+1)).find? p:=by
 obtain⟨M,R⟩:=Zc.1 ae
 rw[a,Zq M,R,List.find?_cons_of_neg (by simp[aw])]
def adZ{α:Type}{p:α->Bool}{l:List α}{S:Nat}{x:α}(a:l.find? p=(l.drop S).find? p)(ae:l[S]? =some x)(aw:p x=true):l.find? p=some x:=by
 obtain⟨M,R⟩:=Zc.1 ae
 rw[a,Zq M,R,List.find?_cons_of_pos aw]
section
variable{X:cl}{h S' aI aM:Q af}{j an aO aZ:Nat}{P bu:Nat->Prop}
def azM:c5 X h .eql 37 true .aV .aV=some .zT:=Zk
def aCt(b W l c:Nat):c5 X h .eql 37 true (.slice b W l c) .aV=some .zF:=Zk
def aCA(b W l c:Nat):c5 X h .eql 37 true (.fj b W l c) .aV=some .zF:=Zk
def azN{aS:D}{n:Nat}(a:gz aS=some (.Z (n:Int))):(aS= .aV/\n=0)\/c5 X h .eql 37 true aS .aV=some .zF:=by
 cases aS with
 |aV=>rw[yn]at a;injection a with a;injection a with _ a;exact .inl ⟨rfl,Zo⟩
 |slice b W l c=>exact .inr (aCt b W l c)
 |fj b W l c=>exact .inr (aCA b W l c)
 |_=>simp[gz]at a
def aiC(l:List eF):jf (l.map d2).flatten=true:=by
 induction l with
 |nil=>rfl
 |cons t l ai=>exact ai
def aqF(au:dj X){l:List eF}{b:Nat}{aS:D}(aE:(o X).a2<=j)(cB:dL X h P b aS 8 (l.map d2))(bp:l.length<=100000)(bq:∀e,P e->e<j):
 aU X 75 [aS] h j (λac S' an=>(∃cq,gk X S' ac 8 (l.map d2).flatten cq/\∀e∈cq,dr j an e)/\ba X h j S' an) (λ_ _ _=>False):=by
 refine zz au (an4 X) ?_
 rw[an5]
 unfold abA
 have d0:=cB.len
 rw[Zi]at d0
 rcases azN (X:=X) (h:=h) d0 with ⟨rfl,aX⟩|dQ
 ·have:l=[]:=ZU aX
  subst this
  refine cd @azM ⟨?_⟩
  exact⟨⟨[], .inl (.inl ⟨rfl,rfl,rfl⟩),λe B=>by simp at B⟩,ba.refl _ _⟩
 ·refine cd @dQ ⟨?_⟩
  generalize c6:Go.bd.bj X h j _=aI
  have bI:U X aI j=zw [] (0*8):=by rw[<-c6,a7 aE]
  have bH:ba X h j aI (j+1):=by rw[<-c6];exact dz
  clear c6
  have aD:=Q0 (cB.aa (λe B=>bH.aa e (bq e B))) Zd
  rw[Zi]at aD
  by_cases aX:l=[]
  ·subst aX
   have E:jC X aI (j+1) 8 (.slice j 0 0 0) aS=some (.val (.slice j 0 0 0)):=by simp only[jC,aD];rfl
   refine Xk E ?_
   exact⟨⟨[j], .inr ⟨j,0,_, .own,rfl,rfl,rfl,bI,l8 []⟩,λe B=>by simp at B;subst B;exact⟨Zo,Zo⟩⟩,bH⟩
  ·have aJ:0<l.length:=Yk.2 aX
   have lI:=Od l
   obtain⟨eJ,aM,cq,az,g2,eC,iu⟩:=gk.append (j:=j+1) (l:=[]) (cq:=[j]) (m:=(l.map d2).flatten) (.inr ⟨j,0,_, .own,rfl,rfl,rfl,bI,l8 []⟩) Zd aD lI aJ (aiC l) (by rw[lI];simp;omega) Zo Zs
   refine kb az ?_
   exact⟨⟨cq, .inl g2,λe B=>by rcases(show e=j+1\/e=j by simpa using eC e B)with rfl|rfl<;>exact⟨Zo,Zo⟩⟩,⟨Zo,λe B=>by rw[iu e Zo Zx];exact bH.aa e B⟩⟩
def ayy{t:aY->Option c8}:∀(n:Nat) (l:List fA) (c:fA),l≠[]\/0<n->pH t n l c≠[]:=by
 intro n
 induction n with
 |zero=>intro l c a;exact a.resolve_right Zo
 |succ n ai=>
  intro l c a
  rw[pH]
  split
  ·rename_i ax
   intro E;subst E;simp at ax
  ·split
   ·simp
   ·exact ai _ _ (.inl Zs)
def aqv{t:aY->Option c8}:∀(n:Nat) (l:List fA) (c:fA),(pH t n l c).length<=l.length+n:=by
 intro n
 induction n with
 |zero=>intro l c;rw[pH];exact Zj _
 |succ n ai=>
  intro l c
  rw[pH]
  split
  ·omega
  ·split
   ·rw[ZH,List.length_singleton];omega
   ·have:=ai (l++[c]) (eA t c.1)
    simp at this
    omega
set_option maxRecDepth 100000 in
def aq0(au:dj X){b6:D}{t:aY->Option c8}{ea:List aY}{g:Go.aT.Node}{row:List D}(aE:(o X).a2<=j)(be:i1 X h P b6 t)(b2:oR X h P g row)(bq:∀e,P e->e<j)(fU:∀w,t w≠none->w∈ea)(bp:ea.length<=200000)(bf:g.out≠[])(bB:(lf g).length<=100000)(iy:Bool):
 aU X 47 [b6, .agg row, .bool iy] h j (λac S' an=>ac= .agg [.Z (mJ t (ea.length+1) g iy).1, .Z (mJ t (ea.length+1) g iy).2]/\ba X h j S' an) (λ_ _ _=>False):=by
 refine zz au (anc X) ?_
 rw[ane]
 unfold aa4
 obtain⟨c7,dv,aS,eH,bY,co,cY,fM,bK,rfl,k1,ko,ov,jo,e8⟩:=b2
 have rH:g.d4.length+g.out.length+g.loc.length<=100000:=by simpa[lf,ZK]using bB
 have sH:=Yk.2 bf
 refine cx ⟨?_⟩
 refine eN (λaI=>U X aI j=zw [.str g.name, .Z g.at_,c7,dv,aS,eH] 6/\U X aI (j+1)=zw [.Z 0, .Z 0] 2/\ba X h j aI (j+1+1))
  ⟨by simp(disch:=omega) only[aB,a7]<;>rfl,by rw[a7 Zo];rfl,dz⟩ ?_
 rintro aI ⟨bI,bN,bH⟩
 have l9:∀e,P e->U X aI e=U X h e:=λe B=>bH.aa e (bq e B)
 refine(aqF (j:=j+1+1) au Zo (k1.aa l9) Zo (λe B=>zs (bq e B))).Zm ?_
 rintro v aM aZ ⟨⟨cq,g2,eC⟩,bx⟩
 have fJ:=bx.le
 rw[<-bx.aa _ Zo]at bI bN
 have hv:=bH.trans bx
 have fin:∀{S':Q af}{aN:Nat}{I:cV}{Ql:bJ},(∀e,e<j->U X S' e=U X h e)->j+1<aN->True:=λ_ _=>trivial
 refine ih ⟨?_⟩
 refine iR (λI S' aN=>∃v cq,I.g 0=some b6/\I.g 4=some (.ptr j 0)/\I.g 6=some (.ptr (j+1) 0)/\I.g 7=some v/\gk X S' v 8 ((rb g iy).map d2).flatten cq/\(∀e∈cq,j+1<e/\e<aN)/\j+1<aN/\U X S' j=zw [.str g.name, .Z g.at_,c7,dv,aS,eH] 6/\U X S' (j+1)=zw [.Z 0, .Z 0] 2/\∀e,e<j->U X S' e=U X h e) (λS bE=> ?_) ?_
 ·cases iy with
  |true=>
   refine cx ⟨?_⟩
   exact bE _ _ _ ⟨v,cq,a8,a8,a8,a8,g2,λe B=>by have:=eC e B;exact⟨zs this.1,this.2⟩,Zo,bI,bN,hv.aa⟩
  |false=>
   refine cd (bc bI) ⟨?_⟩
   have aD:=Q0 (ko.aa λe B=>hv.aa e (bq e B)) Zd
   rw[Zi]at aD
   have lI:=Od g.out
   have au9:=Od g.d4
   obtain⟨eJ,a1,gf,az,awJ,auC,mP⟩:=g2.append (j:=aZ) Zd aD lI sH (aiC g.out) (by rw[lI,au9];omega) Zo (λe B=>(eC e B).2)
   refine kb az ?_
   have dW:∀e,e<j+1+1->e∉cq:=λe B a=>zs (eC e a).1
   exact bE _ _ _ ⟨eJ,gf,a8,a8,a8,a8,by show gk _ _ _ 8 ((g.d4++g.out).map d2).flatten _;rw[ZX,YB];exact .inl awJ,λe B=>by
    rcases auC e B with rfl|a
    ·omega
    ·have:=eC e a;exact⟨zs this.1,zs this.2⟩,Zo,by rw[mP _ Zo (dW _ Zo)];exact bI,by rw[mP _ Zo (dW _ Zo)];exact bN,λe B=>by rw[mP e Zo (dW e Zo)];exact hv.aa e B⟩
 ·clear fin g2 eC cq hv bx bI bN bH l9 v
  rintro I a1 bi ⟨v,cq,t0,t4,eX,gc,g2,eC,wx,bI,bN,Lz⟩
  have fP:(rb g iy).length<=100000:=by unfold rb;cases iy<;>simp<;>omega
  obtain⟨vu,cB⟩:=g2.qZ (P:=λe=>j+1<e/\e<bi) Zd (Tg _) (by rw[Zi];omega) eC
  have d0:=cB.len
  rw[Zi]at d0
  refine cI @gc @d0 ⟨?_⟩
  refine fh (λm I S' aN=>∃(S:Nat),I.g 0=some b6/\I.g 4=some (.ptr j 0)/\I.g 6=some (.ptr (j+1) 0)/\I.g 22=some v/\I.g 23=some (.Z ((rb g iy).length:Int))/\I.g 24=some (.Z (S:Int))/\S+m=(rb g iy).length/\ba X a1 bi S' aN/\((rb g iy).find? λd=>decide (d.on≠[]))=((rb g iy).drop S).find? λd=>decide (d.on≠[]))
   (rb g iy).length ⟨0,aL t0,aL t4,aL eX,a8,a8,fq,Zo,ba.refl _ _,rfl⟩ ?_
  clear t0 t4 eX gc
  rintro m I bA cK ⟨S,t0,t4,eX,rW,Rg,vn,bE,c0,tP⟩
  have iF:=c0.le
  rw[<-c0.aa _ Zo]at bI bN
  have In:∀e,e<j->U X bA e=U X h e:=λe B=>by rw[c0.aa e Zo];exact Lz e B
  have bz:=zx S
  cases m with
  |zero=>
   have d:=zt S (rb g iy).length
   have lk:=adY tP Zo
   have k2:mJ t (ea.length+1) g iy=match (lf g).find? (xv t (ea.length+1))with|some d=>(25,d.et)|none=>(0,0):=by unfold mJ;rw[lk]
   rw[k2]
   refine fO @vn @Rg @d @t4 (bc bI) ⟨?_⟩
   have cX:=(kt k1.len).1
   have dN:=(kt ko.len).1
   have g6:=(kt ov.len).1
   refine f8 (show hC 3 [.aV, .aV, .aV] [(0,1,c7),(1,1,dv),(2,1,aS)] cK=some (.slice cK 0 3 3, .cells (Q.ofList [c7,dv,aS] 0 .nil) 3 .own) by simp[hC,uM,uN,n3,cX,dN,g6]) ?_
   refine cx ⟨?_⟩
   generalize jI:Go.bd.bj X _ cK _=bM
   have fT:U X bM cK=zw [c7,dv,aS] 3:=by rw[<-jI,a7 Zo]
   have d7:∀e,e<cK->U X bM e=U X bA e:=λe B=>by rw[<-jI,aB Zo Zo]
   clear jI
   rw[<-d7 _ Zo]at bI bN
   have vb:∀e,P e->U X bM e=U X h e:=λe B=>by have:=bq e B;rw[d7 e Zo];exact In e this
   refine(ac7 (j:=cK+1) (h:=bM) au Zo Zo fT (k1.aa vb) (ko.aa vb) (ov.aa vb) (λe B=>zs (bq e B)) Zo Zo).Zm ?_
   rintro ac bZ dy ⟨bO,PN,el⟩
   change dL X bZ _ bO ac 8 ((lf g).map d2)at PN
   have pb:=el.le
   rw[<-el.aa _ Zo]at bI bN
   have AE:∀e,e<j->U X bZ e=U X h e:=λe B=>by rw[el.aa e Zo,d7 e Zo];exact In e B
   have af7:=PN.len
   rw[Zi]at af7
   refine cd @af7 ⟨?_⟩
   refine fh (λm I S' aN=>∃(S:Nat),I.g 0=some b6/\I.g 6=some (.ptr (j+1) 0)/\I.g 42=some ac/\I.g 43=some (.Z ((lf g).length:Int))/\I.g 44=some (.Z (S:Int))/\S+m=(lf g).length/\ba X bZ dy S' aN/\(lf g).find? (xv t (ea.length+1))=((lf g).drop S).find? (xv t (ea.length+1)))
    (lf g).length ⟨0,aL t0,aL eX,a8,a8,fq,Zo,ba.refl _ _,rfl⟩ ?_
   clear t0 t4 eX rW Rg vn bz d tP bE
   rintro m I ci dV ⟨S,t0,eX,ajI,XK,XL,bE,ez,tP⟩
   have nj:=ez.le
   rw[<-ez.aa _ Zo]at bN
   have E1:∀e,e<j->U X ci e=U X h e:=λe B=>by rw[ez.aa e Zo];exact AE e B
   cases m with
   |zero=>
    have d:=zt S (lf g).length
    rw[adY tP Zo]
    refine d9 @XL @XK @d @eX @bN @oL @oM ⟨?_⟩
    exact⟨rfl,Zo,λe B=>by rw[aB Zo Zo];exact E1 e B⟩
   |succ m=>
    have d:=zu S (lf g).length
    have bz:=zx S
    obtain⟨ay,nO⟩:∃d,(lf g)[S]? =some d:=⟨_,Ze Zo⟩
    have dp:=PN.fx S (by rw[Zi];omega)
    have e9:=(PN.aa (λe B=>ez.aa e B.2)).row (i:=S) (r:=d2 ay) Zd (by rw[Zu,nO];rfl)
    have iE:d2 ay=[.str ay.name, .Z ay.at_, .bool ay.ty.b, .bool ay.ty.s, .Z ay.ty.w, .str ay.on, .Z ay.et, .bool ay.no]:=rfl
    rw[iE]at e9
    refine hu @XL @XK @ajI @d @dp @e9 ⟨?_⟩
    generalize kZ:Go.bd.bj X _ dV _=dk
    have fH:U X dk dV=zw [.str ay.name, .Z ay.at_, .bool ay.ty.b, .bool ay.ty.s, .Z ay.ty.w, .str ay.on, .Z ay.et, .bool ay.no] 8:=by rw[<-kZ,a7 Zo];rfl
    have gp:∀e,e<dV->U X dk e=U X ci e:=λe B=>by rw[<-kZ];exact zy
    clear kZ
    rw[<-gp _ Zo]at bN
    have avz:cG X dk 8 (.ptr dV 0)=some (.agg (d2 ay)):=by rw[nT,bc fH,bc fH,bc fH,bc fH,bc fH,bc fH,bc fH,bc fH];rfl
    refine cI @t0 @avz ⟨?_⟩
    refine(Hv (j:=dV+1) au Zo ay).Zm ?_
    rintro Bl dt fc ⟨rfl,gT⟩
    have pc:=gT.le
    rw[<-gT.aa _ Zo]at bN fH
    have af9:∀e,e<j->U X dt e=U X h e:=λe B=>by rw[gT.aa e Zo,gp e Zo];exact E1 e B
    refine(aqw (j:=fc) au Zo (be.aa (bu:=P) (λe B=>af9 e (bq e B)) (λ_ a=>a)) (λe B=>zs (bq e B)) fU bp (jm ay)).Zm ?_
    rintro ajZ sf I3 ⟨⟨hN,PO⟩,OO⟩
    have avA:=OO.le
    rw[<-OO.aa _ Zo]at bN fH
    have avD:∀e,e<j->U X sf e=U X h e:=λe B=>by rw[OO.aa e Zo];exact af9 e B
    have H5:xv t (ea.length+1) ay=decide ((pH t (ea.length+1) [] (jm ay)).getLast?≠some lh):=rfl
    have afk:pH t (ea.length+1) [] (jm ay)≠[]:=ayy _ _ _ (.inr Zo)
    have UJ:=aqv (t:=t) (ea.length+1) [] (jm ay)
    generalize pH t (ea.length+1) [] (jm ay)=fC at PO H5 afk UJ
    have hx:=PO.len
    rw[Zi]at hx
    have tH:=Yk.2 afk
    obtain⟨bm,ch⟩:∃bm,fC[fC.length-1]? =some bm:=⟨_,Ze Zo⟩
    rw[List.getLast?_eq_getElem?,ch]at H5
    have cF:bn .sub (.Z (fC.length:Int)) (.Z 1)=some (.Z ((fC.length-1:Nat):Int)):=by
     have:((fC.length-1:Nat):Int)=(fC.length:Int) -1:=Zo
     rw[this];exact wD (by simp at UJ;omega) (by simp at UJ;omega)
    have afK:=PO.fx (fC.length-1) (by rw[Zi];omega)
    have AJ:cG X sf 2 (.ptr hN ((fC.length-1)*2))=some (hb bm):=PO.row Zd (by rw[Zu,ch];rfl)
    have PE:c5 X sf .neq 58 false (hb bm) (.agg [.str [], .zF])=some (.bool (!decide (bm=lh))):=ail bm lh
    have l4:xv t (ea.length+1) ay= !decide (bm=lh):=by
     rw[H5];by_cases a:bm=lh<;>simp[a]
    by_cases ag5:bm=lh
    ·have b0:(!decide (bm=lh))=false:=by simp[ag5]
     rw[b0]at PE l4
     refine d9 @hx @cF @afK @AJ @PE @XL @bz ⟨?_⟩
     exact⟨m,Zo,S+1,aL t0,aL eX,aL ajI,aL XK,a8,Zo,⟨Zo,λe B=>by rw[OO.aa e Zo,gT.aa e Zo,gp e Zo];exact ez.aa e B⟩,adX tP nO l4⟩
    ·have b0:(!decide (bm=lh))=true:=by simp[ag5]
     rw[b0]at PE l4
     rw[adZ tP nO l4]
     refine d9 @hx @cF @afK @AJ @PE (bc fH) (Za @eX (Za @bN (Za @oL @oM))) ⟨?_⟩
     exact⟨rfl,Zo,λe B=>by rw[aB Zo Zo];exact avD e B⟩
  |succ m=>
   have d:=zu S (rb g iy).length
   obtain⟨ay,nO⟩:∃d,(rb g iy)[S]? =some d:=⟨_,Ze Zo⟩
   have dp:=cB.fx S (by rw[Zi];omega)
   have e9:=(cB.aa (λe B=>c0.aa e B.2)).row (i:=S) (r:=d2 ay) Zd (by rw[Zu,nO];rfl)
   have iE:d2 ay=[.str ay.name, .Z ay.at_, .bool ay.ty.b, .bool ay.ty.s, .Z ay.ty.w, .str ay.on, .Z ay.et, .bool ay.no]:=rfl
   rw[iE]at e9
   refine hu @vn @Rg @rW @d @dp @e9 ⟨?_⟩
   generalize kZ:Go.bd.bj X _ cK _=dk
   have fH:U X dk cK=zw [.str ay.name, .Z ay.at_, .bool ay.ty.b, .bool ay.ty.s, .Z ay.ty.w, .str ay.on, .Z ay.et, .bool ay.no] 8:=by rw[<-kZ,a7 Zo];rfl
   have gp:∀e,e<cK->U X dk e=U X bA e:=λe B=>by rw[<-kZ];exact zy
   clear kZ
   rw[<-gp _ Zo]at bN
   by_cases jX:ay.on=[]
   ·have cy:decide (ay.on≠[])=false:=by simp[jX]
    refine fI (bc fH) @cy @vn @bz ⟨?_⟩
    exact⟨m,Zo,S+1,aL t0,aL t4,aL eX,aL rW,aL Rg,a8,Zo,⟨Zo,λe B=>by rw[gp e Zo];exact c0.aa e B⟩,adX tP nO cy⟩
   ·have cy:decide (ay.on≠[])=true:=by simp[jX]
    have k2:mJ t (ea.length+1) g iy=(27,ay.et):=by unfold mJ;rw[adZ tP nO cy]
    rw[k2]
    refine hu (bc fH) @cy @eX @bN @oL @oM ⟨?_⟩
    exact⟨rfl,Zo,λe B=>by rw[aB Zo Zo,gp e Zo];exact In e B⟩
end
mutual
def GD{gd:Type}(t:aY->Option c8)(step:gd->bD->fA->gd):bD->fA->gd->gd
 | .mk z H nm no ty n args,c,s=>yM t step z nm c 0 args (step s (.mk z H nm no ty n args) c)
def yM{gd:Type}(t:aY->Option c8)(step:gd->bD->fA->gd)(z:Int)(nm:aY)(c:fA):Nat->List bD->gd->gd
 |_,[],s=>s
 |i,E::cb,s=>yM t step z nm c (i+1) cb (GD t step E (oe t z nm c i) s)
end
def aEh{gd:Type}(t:aY->Option c8)(step:gd->bD->fA->gd)(E:bD)(c:fA)(s:gd):GD t step E c s=yM t step E.kind E.name c 0 E.args (step s E c):=by
 cases E;rw[GD];rfl
def C9(t:aY->Option c8)(f:Option Int)(E:bD)(c:fA):Option Int:=FR f (HH t E c) E.at_
mutual
def aka(t:aY->Option c8):∀(E:bD) (c:fA) (f:Option Int),nA t E c f=GD t (C9 t) E c f
 | .mk z H nm no ty n args,c,f=>by rw[nA,GD];exact aj9 t z nm c 0 args _
def aj9(t:aY->Option c8)(z:Int)(nm:aY)(c:fA):∀(i:Nat) (l:List bD) (f:Option Int),vv t z nm c i l f=yM t (C9 t) z nm c i l f
 |_,[],f=>by rw[vv,yM]
 |i,E::cb,f=>by rw[vv,yM,aka t E,aj9 t z nm c (i+1) cb]
end
section
variable{X:cl}{h S' aI aM:Q af}{j an aO aZ:Nat}{P bu:Nat->Prop}
def aD5(au:dj X){gd:Type}(t:aY->Option c8)(step:gd->bD->fA->gd)(P nE:Nat->Prop)(bL:Nat)(b6:D)(dK:gd->Q af->Nat->Prop)(z:Nat)(rk hS:List D)(ow:(o X).a2<=bL)(bq:∀e,P e->e<bL)(rs:∀e,nE e->e<bL)
 (gw:∀s h n,dK s h n->bL<=n/\i1 X h nE b6 t)(EK:∀s h n S' aN,dK s h n->n<=aN->(∀e,e<n->U X S' e=U X h e)->dK s S' aN)
 (eM:bD->fA->Prop)(jV:∀E c (i:Nat) H,eM E c->E.args[i]? =some H->eM H (oe t E.kind E.name c i))
 (qM:∀(s:gd) (E:bD) (v:D) (c:fA) (h:Q af) (j:Nat),dK s h j->eM E c->cE X h P E v->aU X z ((rk++[v,hb c])++hS) h j (λac S' an=>dK (step s E c) S' an/\j<=an/\(∀e,P e->U X S' e=U X h e)/\∀e,bL<=e->e<j->U X S' e=U X h e) (λ_ _ _=>False)):
 ∀(N:Nat) (E:bD),SizeOf.sizeOf E<N->∀(s:gd) (v:D) (c:fA) (h:Q af) (j:Nat),dK s h j->eM E c->cE X h P E v->
  aU X 20 [b6,v,hb c, .func (.func z) rk hS] h j (λac S' an=>ac= .tuple []/\dK (GD t step E c s) S' an/\j<=an/\(∀e,P e->U X S' e=U X h e)/\∀e,bL<=e->e<j->U X S' e=U X h e) (λ_ _ _=>False):=by
 intro N
 induction N with
 |zero=>intro E a;omega
 |succ N ai=>
  intro E jn s v c h j aD Y bC
  have d0:=(gw _ _ _ aD).1
  refine zz au (ams X) ?_
  rw[amt]
  unfold aaF
  refine pG ?_
  generalize c6:Go.bd.bj X h j _=aI
  have bI:U X aI j=zw [.str c.1, .bool c.2] 2:=by rw[<-c6,a7 Zo];rfl
  have bQ:∀e,e<j->U X aI e=U X h e:=λe B=>by rw[<-c6,aB Zo Zo]
  clear c6
  have l9:∀e,P e->U X aI e=U X h e:=λe B=>bQ e (zs (bq e B))
  have ll:=EK _ _ _ aI (j+1) aD Zo bQ
  have tN:=cE.aa l9 _ _ bC
  obtain⟨b,aS,cO,br,rfl,ag,a0,_,b5,_,_,_,_,_,ip,cB,has⟩:=id tN.open
  have fg:=cB.len
  have rH:=has.len
  rw[Zi,rH]at fg
  have hU:=cB.many
  rw[Zi,rH]at hU
  have cR:cG X aI 2 (.ptr j 0)=some (hb c):=by rw[iG,bc bI,bc bI];rfl
  rw[aEh]
  refine cI @MJ @cR ⟨?_⟩
  refine(qM s E _ c aI (j+1) ll Y tN).Zm ?_
  rintro ac aM aZ ⟨oy,fJ,nn,ahy⟩
  rw[<-ahy _ Zo Zo]at bI
  have Sk:aP X aM (.ptr b 8)=some aS:=zD (nn b ag) ip
  refine cI @Sk @fg ⟨?_⟩
  refine fh (λm I S' aN=>∃(S:Nat) (eJ:gd),I.g 0=some b6/\I.g 1=some (.ptr b 0)/\I.g 3=some (.func (.func z) rk hS)/\I.g 6=some (.ptr j 0)/\I.g 20=some aS/\I.g 21=some (.Z (E.args.length:Int))/\I.g 22=some (.Z (S:Int))/\S+m=E.args.length/\dK eJ S' aN/\j<aN/\(∀e,P e->U X S' e=U X aI e)/\(∀e,bL<=e->e<j+1->U X S' e=U X aM e)/\yM t step E.kind E.name c 0 E.args (step s E c)=yM t step E.kind E.name c S (E.args.drop S) eJ)
   E.args.length ⟨0,_,a8,a8,a8,a8,a8,a8,fq,Zo,oy,Zo,nn,λ_ _ _=>rfl,rfl⟩ ?_
  rintro m I a1 bi ⟨S,eJ,t0,t1,t3,eX,qf,rV,rW,bE,VN,wx,jt,Wi,bs⟩
  have ayf:∀e,bL<=e->e<j->U X a1 e=U X h e:=λe M R=>by rw[Wi e M Zo,ahy e M Zo,bQ e R]
  cases m with
  |zero=>
   have d:=zt S E.args.length
   rw[ZC Zo,yM]at bs
   rw[bs]
   refine dI @rW @rV @d ⟨?_⟩
   exact⟨rfl,VN,Zo,λe B=>by rw[jt e B,l9 e B],ayf⟩
  |succ m=>
   have d:=zu S E.args.length
   have bz:=zx S
   obtain⟨H,az⟩:=zv E.args S
   have aF:E.args.drop S=H::E.args.drop (S+1):=by
    obtain⟨ae,B⟩:=Zc.1 az
    rw[Zq ae,B]
   obtain⟨w,nR,EO⟩:=has.get S H az
   obtain⟨cN,cA,eb⟩:=(cB.aa jt).one nR
   rw[aF,yM]at bs
   have eT:=Rb (Zl az)
   have cH:=bI
   rw[<-Wi _ Zo Zo]at cH
   have eQ:cG X a1 2 (.ptr j 0)=some (.agg [.str c.1, .bool c.2]):=by rw[iG,bc cH,bc cH];rfl
   have cq:b<bL:=bq b ag
   have Sg:aP X a1 (.ptr b 0)=some (.Z E.kind):=zD (jt b ag) a0
   have Hd:aP X a1 (.ptr b 2)=some (.str E.name):=zD (jt b ag) b5
   have key:∀(I:cV) (bM:Q af) (bX:Nat) (Ql:Q af->Nat->Prop),I.g 0=some b6->I.g 9=some w->I.g 10=some (.ptr bi 0)->I.g 3=some (.func (.func z) rk hS)->bi<bX->(∀e,e<bi->U X bM e=U X a1 e)->cG X bM 2 (.ptr bi 0)=some (hb (oe t E.kind E.name c S))->
    (∀bZ dy,dK (GD t step H (oe t E.kind E.name c S) eJ) bZ dy->j<dy->(∀e,P e->U X bZ e=U X aI e)->(∀e,bL<=e->e<j+1->U X bZ e=U X aM e)->Ql bZ dy)->
    cw (I.g 0) λw2=>cw (I.g 9) λaDk=>cw (I.g 10) λaDl=>ap (cG X bM 2 aDl) λaDR=>cw (I.g 3) λJA=>aU X 20 [w2,aDk,aDR,JA] bM bX (λ_ aoV azD=>Ql aoV azD) (λ_ _ _=>False):=by
    intro I bM bX Ql aDH Bl ajZ w8 aga d7 afU aJ
    rw[aDH,Bl,ajZ,w8]
    refine m0 (m0 (m0 ?_))
    rw[afU]
    refine oF (m0 ?_)
    refine(ai H Zo eJ w _ bM bX (EK _ _ _ bM bX VN Zo d7) (jV E c S H Y az) (cE.aa (λe B=>by rw[d7 e (zs (bq e B)),jt e B]) _ _ EO)).Zm ?_
    rintro ac bZ dy ⟨rfl,LS,pb,ph,ayg⟩
    exact aJ bZ dy LS Zo (λe B=>by rw[ph e B,d7 e (zs (bq e B)),jt e B]) (λe M R=>by rw[ayg e M Zo,d7 e Zo,Wi e M R])
   by_cases c3:E.kind=6
   ·have g8:decide (E.kind=6)=true:=by simp[c3]
    have Le:oe t E.kind E.name c S=eA t E.name:=by unfold oe;rw[Zr c3]
    refine d9 @rW @rV @qf @eX @t1 @t0 (Za @d (Za @cN (Za @cA @eQ))) ⟨?_⟩
    generalize eS:Go.bd.bj X _ bi _=bA
    have dJ:∀e,e<bi->U X bA e=U X a1 e:=λe B=>by rw[<-eS];exact zy
    have dg:∃nJ,U X bA bi=some (.cells nJ 2 .own):=⟨_,by rw[<-eS,a7 Zo];rfl⟩
    clear eS
    have xq:aP X bA (.ptr b 0)=some (.Z E.kind):=zD (dJ b Zo) Sg
    have Sh:aP X bA (.ptr b 2)=some (.str E.name):=zD (dJ b Zo) Hd
    obtain⟨nJ,dg⟩:=dg
    refine fO @t1 @t0 @xq @g8 @Sh ⟨?_⟩
    refine(Ja (j:=bi+1) au Zo ((gw _ _ _ VN).2.aa (S':=bA) (bu:=nE) (λe B=>dJ e (zs (rs e B))) (λ_ a=>a)) (λe B=>zs (rs e B)) E.name).Zm ?_
    rintro ac bM bX ⟨rfl,dC⟩
    have ik:=dC.le
    rw[<-dC.aa _ Zo]at dg
    unfold hb
    refine oj @dg ⟨?_⟩
    refine key _ _ bX _ (aL t0) (a8) (a8) (aL t3) Zo (λe B=>by rw[aB Zo Zo,dC.aa e Zo,dJ e B]) (by rw[Le,iG,bc (a7 Zo),bc (a7 Zo)];erw [oL,oM];rfl) (λbZ dy M R ak aA=> ?_)
    refine cI @rW @bz ⟨?_⟩
    exact⟨m,Zo,S+1,_,aL t0,aL t1,aL t3,aL eX,aL qf,aL rV,a8,Zo,M,R,ak,aA,bs⟩
   ·have g8:decide (E.kind=6)=false:=by simp[c3]
    by_cases nS:E.kind=24
    ·have uJ:decide (E.kind=24)=true:=by simp[nS]
     have Le:oe t E.kind E.name c S=(E.name,decide (S=1)):=by unfold oe;rw[Zh c3,Zr nS]
     have S9:decide ((S:Int)=1)=decide (S=1):=by by_cases a:S=1<;>simp[a];omega
     refine d9 @rW @rV @qf @eX @t1 @t0 (Za @d (Za @cN (Za @cA @eQ))) ⟨?_⟩
     generalize eS:Go.bd.bj X _ bi _=bA
     have dJ:∀e,e<bi->U X bA e=U X a1 e:=λe B=>by rw[<-eS];exact zy
     have dg:∃nJ,U X bA bi=some (.cells nJ 2 .own):=⟨_,by rw[<-eS,a7 Zo];rfl⟩
     clear eS
     have xq:aP X bA (.ptr b 0)=some (.Z E.kind):=zD (dJ b Zo) Sg
     have Sh:aP X bA (.ptr b 2)=some (.str E.name):=zD (dJ b Zo) Hd
     obtain⟨nJ,dg⟩:=dg
     refine d9 @t1 @xq @g8 @Sh @uJ @S9 @dg ⟨?_⟩
     refine key _ _ (bi+1) _ (aL t0) (a8) (a8) (aL t3) Zo (λe B=>by rw[aB Zo Zo,dJ e B]) (by rw[Le,iG,bc (a7 Zo),bc (a7 Zo)];erw [oL,oM];rfl) (λbZ dy M R ak aA=> ?_)
     refine cI @rW @bz ⟨?_⟩
     exact⟨m,Zo,S+1,_,aL t0,aL t1,aL t3,aL eX,aL qf,aL rV,a8,Zo,M,R,ak,aA,bs⟩
    ·have uJ:decide (E.kind=24)=false:=by simp[nS]
     have Le:oe t E.kind E.name c S=c:=by unfold oe;rw[Zh c3,Zh nS]
     refine d9 @rW @rV @qf @eX @t1 @t0 (Za @d (Za @cN (Za @cA @eQ))) ⟨?_⟩
     generalize eS:Go.bd.bj X _ bi _=bA
     have dJ:∀e,e<bi->U X bA e=U X a1 e:=λe B=>by rw[<-eS];exact zy
     have dg:U X bA bi=zw [.str c.1, .bool c.2] 2:=by rw[<-eS,a7 Zo];rfl
     clear eS
     have xq:aP X bA (.ptr b 0)=some (.Z E.kind):=zD (dJ b Zo) Sg
     refine fI @t1 @xq @g8 @uJ ⟨?_⟩
     refine key _ _ (bi+1) _ (aL t0) (a8) (a8) (aL t3) Zo (λe B=>by rw[dJ e B]) (by rw[Le,iG,bc dg,bc dg];rfl) (λbZ dy M R ak aA=> ?_)
     refine cI @rW @bz ⟨?_⟩
     exact⟨m,Zo,S+1,_,aL t0,aL t1,aL t3,aL eX,aL qf,aL rV,a8,Zo,M,R,ak,aA,bs⟩
end
section
variable{X:cl}{h S' fi aI aM:Q af}{j an aO aZ bL hS lb:Nat}{P nE bu:Nat->Prop}
structure DU(X:cl)(fi:Q af)(bL hS:Nat)(f:Option Int)(h:Q af)(n:Nat):Prop where
 le:bL<=n
 cell:∃c,U X h hS=some (.cells c 2 .own)/\c.get 0=some (.Z (if f.isSome then 27 else 0))/\c.get 1=some (.Z (f.getD 0))
 low:∀e,e<bL->e≠hS->U X h e=U X fi e
def DU.aa{f:Option Int}(a:DU X fi bL hS f aI aO)(UV:hS<bL)(gn:aO<=aZ)(z:∀e,e<aO->U X aM e=U X aI e):DU X fi bL hS f aM aZ:=by
 have aC:=a.le
 obtain⟨c,g,jG,bI⟩:=a.cell
 exact⟨Zo,⟨c,by rw[z _ Zo];exact g,jG,bI⟩,λe M R=>by rw[z e Zo];exact a.low e M R⟩
def azu(au:dj X){b6:D}{t:aY->Option c8}{E:bD}{v:D}{c:fA}{f:Option Int}(aE:(o X).a2<=hS)(UV:hS<bL)(be:i1 X fi nE b6 t)(rs:∀e,nE e->e<bL/\e≠hS)(Fk:lb<bL)(awV:lb≠hS)(fy:aP X fi (.ptr lb 0)=some b6)(bC:cE X h P E v)(bq:∀e,P e->e<bL/\e≠hS)(gw:DU X fi bL hS f h j):
 aU X 50 (([]++[v,hb c])++[.ptr hS 0, .ptr lb 0]) h j (λac S' an=>DU X fi bL hS (C9 t f E c) S' an/\j<=an/\(∀e,P e->U X S' e=U X h e)/\∀e,bL<=e->e<j->U X S' e=U X h e) (λ_ _ _=>False):=by
 refine zz au (anh X) ?_
 rw[YD]
 show c2 X 50 [v,hb c, .ptr hS 0, .ptr lb 0] _ _ _ _
 rw[ani]
 unfold aa8
 have gn:=gw.le
 refine pG ?_
 generalize c6:Go.bd.bj X h j _=aI
 have bI:U X aI j=zw [.str c.1, .bool c.2] 2:=by rw[<-c6,a7 Zo];rfl
 have bQ:∀e,e<j->U X aI e=U X h e:=λe B=>by rw[<-c6,aB Zo Zo]
 clear c6
 have l9:∀e,P e->U X aI e=U X h e:=λe B=>bQ e (zs (bq e B))
 have tN:=cE.aa l9 _ _ bC
 have Ch:=gw.aa (aZ:=j+1) UV Zo bQ
 obtain⟨cc,vW,bF,eR⟩:=Ch.cell
 obtain⟨b,aS,cO,br,rfl,ag,a0,Kc,_⟩:=id tN.open
 have eC:=bq b ag
 have afc:b≠hS:=eC.2
 have lt:aP X aI (.ptr lb 0)=some b6:=zD (Ch.low lb Fk awV) fy
 have cR:cG X aI 2 (.ptr j 0)=some (hb c):=by rw[iG,bc bI,bc bI];rfl
 cases f with
 |some H=>
  have UU:cc.get 0=some (.Z 27):=bF
  have d:decide ((27:Int)=0)=false:=rfl
  refine dI (bc vW) @UU @d ⟨?_⟩
  exact⟨Ch,Zo,l9,λe M R=>bQ e R⟩
 |none=>
  have UU:cc.get 0=some (.Z 0):=bF
  have d:decide ((0:Int)=0)=true:=rfl
  refine fO (bc vW) @UU @d @lt @cR ⟨?_⟩
  refine(asm (j:=j+1) au Zo (be.aa (S':=aI) (bu:=nE) (λe B=>by have:=rs e B;exact Ch.low e this.1 this.2) (λ_ a=>a)) (λe B=>zs (rs e B)) tN (λe B=>zs (bq e B)) c).Zm ?_
  rintro ac aM aZ ⟨rfl,bx⟩
  have fJ:=bx.le
  have v8:=Ch.aa (aZ:=aZ) UV fJ bx.aa
  rw[<-bx.aa _ Zo]at vW
  have ct:∀e,e<j->U X aM e=U X h e:=λe B=>by rw[bx.aa e Zo,bQ e B]
  cases If:HH t E c with
  |true=>
   have bp:C9 t none E c=none:=by simp[C9,FR,If]
   rw[bp]
   refine cx ⟨?_⟩
   exact⟨v8,Zo,λe B=>ct e (zs (bq e B)),λe M R=>ct e R⟩
  |false=>
   have bp:C9 t none E c=some E.at_:=by simp[C9,FR,If]
   rw[bp]
   rw[<-bx.eV _ _ Zo]at Kc
   refine cI @Kc @vW ⟨?_⟩
   generalize fl:Go.bd.bj X aM hS _=a1
   have cH:∃g6,U X a1 hS=some (.cells g6 2 .own):=⟨_,by rw[<-fl,a7 aE]⟩
   have c1:∀e,e≠hS->U X a1 e=U X aM e:=λe B=>by rw[<-fl,aB aE B]
   clear fl
   obtain⟨g6,cH⟩:=cH
   have aci:aP X a1 (.ptr b 1)=some (.Z E.at_):=zD (c1 b afc) Kc
   refine cd @aci ⟨?_⟩
   refine f4 (by simp[D.same,oI]) ?_
   refine cd @cH ⟨?_⟩
   generalize eS:Go.bd.bj X a1 hS _=bA
   have dg:∃nJ,U X bA hS=some (.cells nJ 2 .own)/\nJ.get 0=some (.Z 27):=⟨_,by rw[<-eS,a7 aE],by rw[gQ];rfl⟩
   have dJ:∀e,e≠hS->U X bA e=U X a1 e:=λe B=>by rw[<-eS,aB aE B]
   clear eS
   obtain⟨nJ,dg,asN⟩:=dg
   have apu:aP X bA (.ptr b 1)=some (.Z E.at_):=zD (dJ b afc) aci
   refine cd @apu ⟨?_⟩
   refine f4 (by simp[D.same,oI]) ?_
   refine cd @dg ⟨?_⟩
   have ej:∀e,e≠hS->e<j->U X (Go.bd.bj X bA hS (some (.cells (dS nJ 1 [.Z E.at_]) 2 .own))) e=U X h e:=λe M R=>by rw[aB aE M,dJ e M,c1 e M,ct e R]
   refine⟨⟨Zo,⟨_,a7 aE,by rw[gQ];simpa using asN,by rw[gQ];rfl⟩,λe M R=>by rw[aB aE R,dJ e R,c1 e R];exact v8.low e M R⟩,Zo,λe B=>ej e (bq e B).2 (zs (bq e B)),λe M R=>ej e Zo R⟩
def aAC(au:dj X){b6:D}{t:aY->Option c8}{c:fA}{bO:Nat}(aE:(o X).a2<=j)(be:i1 X h nE b6 t)(rs:∀e,nE e->e<j)(Fk:lb<j)(fy:aP X h (.ptr lb 0)=some b6)(iD:bO<j)(lc:cG X h 2 (.ptr bO 0)=some (hb c))(w:aY):
 aU X 48 [.str w, .ptr lb 0, .ptr bO 0] h j (λac S' an=>ac= .bool (decide (eA t w≠c))/\ba X h j S' an) (λ_ _ _=>False):=by
 refine zz au (anf X) ?_
 rw[ang]
 unfold aa5
 refine cI @fy @lc ⟨?_⟩
 refine(Ja (j:=j+6) au Zo be (λe B=>zs (rs e B)) w).Zm ?_
 rintro ac aI aO ⟨rfl,bH⟩
 have jJ:=bH.le
 have ayJ:cG X aI 2 (.ptr bO 0)=some (hb c):=by rw[<-lc,iG,iG,bH.eV _ _ Zo,bH.eV _ _ Zo]
 refine cI @ail @ayJ ⟨?_⟩
 refine f4 (SX c) ?_
 refine⟨?_,bH.j9 Zo⟩
 by_cases a:eA t w=c<;>simp[a]
def aAD(au:dj X){b6:D}{t:aY->Option c8}{c:fA}{bO b:Nat}{aS:D}{gV:List aY}(aE:(o X).a2<=j)(be:i1 X h nE b6 t)(rs:∀e,nE e->e<j)(Fk:lb<j)(fy:aP X h (.ptr lb 0)=some b6)(iD:bO<j)(lc:cG X h 2 (.ptr bO 0)=some (hb c))(Y:dL X h P b aS 1 (e3 gV))(bq:∀e,P e->e<j):
 aU X 49 [aS, .func (.func 48) [] [.ptr lb 0, .ptr bO 0]] h j (λac S' an=>ac= .bool (gV.any λw=>decide (eA t w≠c))/\ba X h j S' an) (λ_ _ _=>False):=by
 refine zz au (aa6 X) ?_
 rw[aa7]
 unfold R9
 refine aU.mono (ah:=λac S' an=>(∃r:Int,ac= .Z r/\(0<=r↔(gV.any λw=>decide (eA t w≠c))=true))/\ba X h j S' an) (av:=λ_ _ _=>False) ?_ ?_ (λ_ _ _ a=>a.elim)
 ·refine zz au (abC X) ?_
  rw[abD]
  unfold Sc
  have d0:=Y.len
  have hU:=Y.many
  rw[show(e3 gV).length=gV.length from by simp[e3]]at d0 hU
  refine cd @d0 ⟨?_⟩
  refine fh (λm I S' aN=>∃(S:Nat),I.g 0=some aS/\I.g 1=some (.func (.func 48) [] [.ptr lb 0, .ptr bO 0])/\I.g 7=some (.Z (gV.length:Int))/\I.g 8=some (.Z (S:Int))/\S+m=gV.length/\ba X h j S' aN/\(gV.any λw=>decide (eA t w≠c))=(gV.drop S).any λw=>decide (eA t w≠c))
   gV.length ⟨0,a8,a8,a8,fq,Zo,ba.refl _ _,rfl⟩ ?_
  rintro m I aI aO ⟨S,t0,t1,gc,t8,bE,bH,o9⟩
  have jJ:=bH.le
  cases m with
  |zero=>
   have d:=zt S gV.length
   rw[ZC Zo]at o9
   refine dI @t8 @gc @d ⟨?_⟩
   exact⟨⟨-1,rfl,by rw[o9];simp⟩,bH⟩
  |succ m=>
   have d:=zu S gV.length
   have bz:=zx S
   obtain⟨w,nR⟩:=zv gV S
   have aF:gV.drop S=w::gV.drop (S+1):=by
    obtain⟨ae,B⟩:=Zc.1 nR
    rw[Zq ae,B]
   rw[aF,List.any_cons]at o9
   have dp:=Y.fx S (by simp[e3];omega)
   have hx:=(Y.aa (λe B=>bH.aa e (bq e B))).cell S [.str w] 0 (.str w) (by unfold e3;rw[Zu,nR];rfl) rfl
   rw[Z1]at dp
   rw[Z1,ZR]at hx
   refine d9 @t8 @gc @t1 @t0 @d @dp @hx ⟨?_⟩
   refine(aAC (j:=aO) (c:=c) au Zo (be.aa (bu:=nE) (λe B=>bH.aa e (rs e B)) (λ_ a=>a)) (λe B=>zs (rs e B)) Zo (by rw[bH.eV _ _ Fk];exact fy) (show bO<aO by omega) (by rw[<-lc,iG,iG,bH.eV _ _ iD,bH.eV _ _ iD]) w).Zm ?_
   rintro ac aM aZ ⟨rfl,bx⟩
   refine pN ⟨?_⟩
   refine gi ?_
   refine BS (λbs=> ?_) (λbs=> ?_)
   ·refine cx ⟨?_⟩
    exact⟨⟨S,rfl,by rw[o9];simp[bs]⟩,bH.trans bx⟩
   ·refine cI @t8 @bz ⟨?_⟩
    exact⟨m,Zo,S+1,aL t0,aL t1,aL gc,a8,Zo,bH.trans bx,by rw[o9];simp[bs]⟩
 ·rintro ac aI aO ⟨⟨r,rfl,Y⟩,bU⟩
  refine cx ⟨?_⟩
  refine⟨?_,bU⟩
  congr 1
  generalize (gV.any λw=>decide (eA t w≠c))=aj at Y
  cases aj with
  |true=>simp[Y.2 rfl]
  |false=>simp at Y;simp;omega
end
def xI(t:aY->Option c8)(aj:gt):Option Int:=if (aj.left.any λw=>decide (eA t w≠eA t (aj.left.headD [])))=true then some aj.at_ else nA t aj.right (eA t (aj.left.headD [])) none
def vg(g:Go.aT.Node)(iy:Bool):Int×Int:=if (mJ (ec g) (C1 g) g iy).1≠0 then mJ (ec g) (C1 g) g iy else match g.eqs.findSome? (xI (ec g))with
 |some H=>(27,H)
 |none=>(0,0)
def asj{α:Type}{p:α->Option Int}{l:List α}{S:Nat}(a:l.findSome? p=(l.drop S).findSome? p)(bE:l.length<=S):l.findSome? p=none:=by
 rw[a,ZC bE];rfl
def asi{α:Type}{p:α->Option Int}{l:List α}{S:Nat}{x:α}(a:l.findSome? p=(l.drop S).findSome? p)(ae:l[S]? =some x)(aw:p x=none):l.findSome? p=(l.drop (S+1)).findSome? p:=by
 obtain⟨M,R⟩:=Zc.1 ae
 rw[a,Zq M,R,List.findSome?_cons,aw]
def adV{α:Type}{p:α->Option Int}{l:List α}{S:Nat}{x:α}{H:Int}(a:l.findSome? p=(l.drop S).findSome? p)(ae:l[S]? =some x)(aw:p x=some H):l.findSome? p=some H:=by
 obtain⟨M,R⟩:=Zc.1 ae
 rw[a,Zq M,R,List.findSome?_cons,aw]
def aix:∀(l:List (Int×eF)) (s:(aY->Option c8)×List aY),(∀w,s.1 w≠none->w∈s.2)->(∀w,(l.foldl kM s).1 w≠none->w∈(l.foldl kM s).2)/\(l.foldl kM s).2.length<=s.2.length+l.length:=by
 intro l
 induction l with
 |nil=>intro s a;exact⟨a,Zs⟩
 |cons x l ai=>
  intro s a
  rw[ZS]
  have M:∀w,(kM s x).1 w≠none->w∈(kM s x).2:=by
   intro w
   unfold kM
   split
   ·exact a w
   ·simp only
    split
    ·rename_i E;subst E;simp
    ·intro bs;exact List.mem_append_left _ (a w bs)
  have R:(kM s x).2.length<=s.2.length+1:=by
   unfold kM
   split
   ·omega
   ·simp
  obtain⟨H,b⟩:=ai _ M
  exact⟨H,by simp only[ZF];omega⟩
def aAA(z:Nat)(t:aY->Option c8)(x:aY×Nat)(w:aY)(a:rP z t x w≠none):t w≠none:=by
 unfold rP at a
 cases bB:t x.1 with
 |none=>rw[bB]at a;exact a
 |some v=>
  rw[bB]at a
  simp only at a
  by_cases M:v.eq<0
  ·rw[Zr M]at a
   by_cases R:w=x.1
   ·rw[R,bB];simp
   ·rw[Zh R]at a;exact a
  ·rw[Zh M]at a;exact a
def ad4{α:Type}(f:(aY->Option c8)->α->aY->Option c8)(b7:∀t x w,f t x w≠none->t w≠none):∀(l:List α) (t:aY->Option c8) (w:aY),l.foldl f t w≠none->t w≠none:=by
 intro l
 induction l with
 |nil=>intro t w a;exact a
 |cons x l ai=>intro t w a;rw[ZS]at a;exact b7 t x w (ai _ w a)
def ajM(g:Go.aT.Node)(w:aY)(a:ec g w≠none):w∈kL g:=by
 unfold ec at a
 have M:=ad4 Jf (λt x w a=>ad4 (rP x.2) (aAA x.2) _ t w a) _ _ _ a
 exact(aix (gD g) (λ_=>none,[]) Zs).1 w M
def aij(g:Go.aT.Node):(kL g).length<=(gD g).length:=by
 have:=(aix (gD g) (λ_=>none,[]) Zs).2
 simpa[kL,nu]using this
section
variable{X:cl}{h S' fi aI aM:Q af}{j an aO aZ:Nat}{P:Nat->Prop}
set_option maxRecDepth 100000 in
def azT(au:dj X){g:Go.aT.Node}{row:List D}(aE:(o X).a2<=j)(b2:oR X h P g row)(bq:∀e,P e->e<j)(bs:oa jl g)(bB:(lf g).length<=100000)(aGd:(gD g).length<=100000)(iy:Bool):
 aU X 28 [.agg row, .bool iy] h j (λac S' an=>ac= .agg [.Z (vg g iy).1, .Z (vg g iy).2]/\ba X h j S' an) (λ_ _ _=>False):=by
 refine zz au (amA X) ?_
 rw[amB]
 unfold aaK
 have Ls:=b2
 have jL:=b2.jf
 have Vp:=aij g
 obtain⟨c7,dv,aS,eH,bY,co,cY,fM,bK,rfl,k1,ko,ov,jo,e8⟩:=b2
 refine cx ⟨?_⟩
 refine eN (λaI=>U X aI j=zw [.str g.name, .Z g.at_,c7,dv,aS,eH] 6/\U X aI (j+1)=zw [.Z 0, .Z 0] 2/\ba X h j aI (j+1+1))
  ⟨by simp(disch:=omega) only[aB,a7]<;>rfl,by rw[a7 Zo];rfl,dz⟩ ?_
 rintro aI ⟨bI,bN,bH⟩
 have l9:∀e,P e->U X aI e=U X h e:=λe B=>bH.aa e (bq e B)
 refine(QG (j:=j+1+1) au Zo (λe B=>zs (bq e B)) (Ls.aa (bu:=P) l9 (λ_ a=>a)) Zo).Zm ?_
 rintro ac aM aZ ⟨b6,k3,q1,dW,rfl,kp,ya,cN,cA, -, -,bx⟩
 have fJ:=bx.le
 rw[<-bx.aa _ Zo]at bI bN
 have hv:=bH.trans bx
 have aGS:=kp.1
 have aGT:=kp.2
 have CI:i1 X aM (λe=>e<aZ) (.ptr b6 0) (ec g):=⟨b6,k3,rfl,kp.2,ya.2,cN,cA⟩
 refine cd (bc bI) ⟨?_⟩
 refine eN (λa1=>U X a1 aZ=zw [.ptr b6 0] 1/\∀e,e<aZ->U X a1 e=U X aM e)
  ⟨by simp(disch:=omega) only[aB,a7]<;>rfl,λe B=>zy⟩ ?_
 rintro a1 ⟨cH,c1⟩
 have OZ:∀e,P e->e<aZ:=λe B=>zs (bq e B)
 have jt:∀e,P e->U X a1 e=U X h e:=λe B=>by rw[c1 e (OZ e B)];exact hv.aa e (bq e B)
 rw[<-c1 _ Zo]at bI bN
 have PW:i1 X a1 (λe=>e<aZ) (.ptr b6 0) (ec g):=CI.aa (λe B=>c1 e B) (λ_ a=>a)
 refine(aq0 (j:=aZ+1) (P:=λe=>e<aZ) (t:=ec g) (ea:=kL g) au Zo PW (Ls.aa (bu:=λe=>e<aZ) jt OZ) (λe B=>Zo) (ajM g) Zo bs.some bB iy).Zm ?_
 rintro ac bA cK ⟨rfl,c0⟩
 have iF:=c0.le
 rw[<-c0.aa _ Zo]at bI bN cH
 have In:∀e,e<j->U X bA e=U X h e:=λe B=>by rw[c0.aa e Zo,c1 e Zo];exact hv.aa e B
 have wy:vg g iy=if (mJ (ec g) ((kL g).length+1) g iy).1≠0 then mJ (ec g) ((kL g).length+1) g iy else match g.eqs.findSome? (xI (ec g))with|some H=>(27,H)|none=>(0,0):=rfl
 generalize mJ (ec g) ((kL g).length+1) g iy=f at wy ⊢
 obtain⟨B5,rk⟩:=f
 by_cases b7:B5=0
 ·subst b7
  rw[Zh Zs]at wy
  have iq:decide ((0:Int)≠0)=false:=rfl
  have j6:=e8.wide
  have d0:=jo.len
  have hU:=jo.many
  rw[j6.1]at d0 hU
  have PX:i1 X bA (λe=>e<aZ) (.ptr b6 0) (ec g):=PW.aa (λe B=>c0.aa e Zo) (λ_ a=>a)
  generalize ec g=t at PX wy
  refine dI @iq (bc bI) @d0 ⟨?_⟩
  generalize jI:Go.bd.bj X _ cK _=bM
  have d7:∀e,e<cK->U X bM e=U X bA e:=λe B=>by rw[<-jI];exact zy
  clear jI
  rw[<-d7 _ Zo]at bI bN cH
  have awS:i1 X bM (λe=>e<aZ) (.ptr b6 0) t:=PX.aa (λe B=>d7 e Zo) (λ_ a=>a)
  have Pz:∀e,e<j->U X bM e=U X h e:=λe B=>by rw[d7 e Zo];exact In e B
  refine fh (λm I S' aN=>∃(S:Nat),I.g 2=some (.ptr j 0)/\I.g 4=some (.ptr (j+1) 0)/\I.g 5=some (.ptr aZ 0)/\I.g 23=some eH/\I.g 24=some (.Z (g.eqs.length:Int))/\I.g 25=some (.Z (S:Int))/\S+m=g.eqs.length/\ba X bM (cK+1) S' aN/\g.eqs.findSome? (xI t)=(g.eqs.drop S).findSome? (xI t))
   g.eqs.length ⟨0,a8,a8,a8,a8,a8,fq,Zo,ba.refl _ _,rfl⟩ ?_
  rintro m I bZ dy ⟨S,Dz,vr,vs,GB,Bk,XT,bE,el,tP⟩
  have pb:=el.le
  have tA:=bN
  have uP:=cH
  rw[<-el.aa _ Zo]at tA uP
  have AE:∀e,e<j->U X bZ e=U X h e:=λe B=>by rw[el.aa e Zo];exact Pz e B
  have VU:i1 X bZ (λe=>e<aZ) (.ptr b6 0) t:=awS.aa (λe B=>el.aa e Zo) (λ_ a=>a)
  cases m with
  |zero=>
   have d:=zt S g.eqs.length
   rw[asj tP Zo]at wy
   rw[wy]
   refine d9 @XT @Bk @d @vr @tA @oL @oM ⟨?_⟩
   exact⟨rfl,Zo,λe B=>by rw[aB Zo Zo];exact AE e B⟩
  |succ m=>
   have d:=zu S g.eqs.length
   have bz:=zx S
   obtain⟨aj,b0⟩:=zv g.eqs S
   have sJ:=bs.eqs aj (Zl b0)
   have ph:∀e,P e->U X bZ e=U X h e:=λe B=>AE e (bq e B)
   obtain⟨QY,tW,VG⟩:=(e8.aa (bu:=P) ph (λ_ a=>a)).get S aj b0
   have dp:=jo.fx S (by rw[j6.1];omega)
   have hz:=(jo.aa ph).row (i:=S) (r:=QY) Zd tW
   obtain⟨Gr,k8,cX,dN,kc,rfl,mS, -,sB,Vx⟩:=VG
   obtain⟨bl,gV,rI⟩:∃bl gV,aj.left=bl::gV:=by
    cases a:aj.left with
    |nil=>exact absurd a sJ.some
    |cons H l=>exact⟨H,l,rfl⟩
   have U2:aj.left.headD []=bl:=by rw[rI];rfl
   have U5:gy 1 Gr (.Z 0)=some (.ptr cX 0):=by
    have:=mS.fx 0 (by rw[rI];simp[e3])
    simpa using this
   have agY:aP X bZ (.ptr cX 0)=some (.str bl):=by
    have:=mS.cell 0 [.str bl] 0 (.str bl) (by rw[rI];rfl) rfl
    simpa using this
   have ry:cX<j:=bq cX (mS.ag (by rw[rI];simp[e3]))
   have Cp:xI t aj=if (aj.left.any λw=>decide (eA t w≠eA t bl))=true then some aj.at_ else nA t aj.right (eA t bl) none:=by unfold xI;rw[U2]
   refine hu @XT @Bk @GB @d @dp @hz ⟨?_⟩
   refine f8 (iH (z:=4) (b:=dy) (W:=0) (n:=4) (c:=Q.ofList [.aV, .aV, .Z 0, .cJ] 0 .nil) (a7 Zo) Zo rfl Zd Zd Vx) ?_
   generalize jW:Go.bd.bj X _ dy _=ci
   have d8:U X ci dy=zw [Gr,k8, .Z aj.at_,kc] 4:=by rw[<-jW,a7 Zo];rfl
   have ft:∀e,e<dy->U X ci e=U X bZ e:=λe B=>by rw[<-jW];exact zy
   clear jW
   rw[<-ft _ Zo]at tA uP
   have aw9:aP X ci (.ptr cX 0)=some (.str bl):=zD (ft _ Zo) agY
   refine fO @vs (bc uP) (bc d8) @U5 @aw9 ⟨?_⟩
   refine eN (λdk=>U X dk (dy+1+6)=zw [.str [], .zF] 2/\∀e,e<dy+1->U X dk e=U X ci e)
    ⟨by rw[a7 Zo];rfl,λe B=>zy⟩ ?_
   rintro dk ⟨fH,gp⟩
   rw[<-gp _ Zo]at tA uP d8
   have awT:i1 X dk (λe=>e<aZ) (.ptr b6 0) t:=VU.aa (λe B=>by rw[gp e Zo,ft e Zo]) (λ_ a=>a)
   refine(Ja (j:=dy+1+8) au Zo awT (λe B=>Zo) bl).Zm ?_
   rintro ac dt fc ⟨rfl,gT⟩
   have pc:=gT.le
   rw[<-gT.aa _ Zo]at tA uP d8 fH
   generalize eA t bl=qv at Cp
   unfold hb
   refine dI @fH @vs (bc d8) ⟨?_⟩
   refine eN (λfR=>(∃cc,U X fR (dy+1+6)=some (.cells cc 2 .own)/\cc.get 0=some (.str qv.1)/\cc.get 1=some (.bool qv.2))/\∀e,e≠dy+1+6->U X fR e=U X dt e)
    ⟨⟨_,a7 Zo,by exact oL _ _ _,by exact oM _ _ _⟩,λe B=>aB Zo B⟩ ?_
   rintro fR ⟨⟨cc,f1,SN,SO⟩,kq⟩
   rw[<-kq _ Zo]at tA uP d8
   have Wj:∀e,e<dy->U X fR e=U X bZ e:=λe B=>by rw[kq e Zo,gT.aa e Zo,gp e Zo,ft e B]
   have PY:i1 X fR (λe=>e<aZ) (.ptr b6 0) t:=VU.aa (λe B=>Wj e Zo) (λ_ a=>a)
   have ayK:cG X fR 2 (.ptr (dy+1+6) 0)=some (hb qv):=by rw[iG,bc f1,bc f1,SN,SO];rfl
   refine(aAD (j:=fc) (lb:=aZ) (bO:=dy+1+6) (c:=qv) (gV:=aj.left) au Zo PY (λe B=>Zo) Zo (by rw[bc uP];rfl) Zo ayK (mS.aa (λe B=>Wj e (zs (bq e B)))) (λe B=>zs (bq e B))).Zm ?_
   rintro ac mh sU ⟨rfl,rq⟩
   have Vc:=rq.le
   rw[<-rq.aa _ Zo]at tA uP d8 f1
   have ahz:∀e,e<dy->U X mh e=U X bZ e:=λe B=>by rw[rq.aa e Zo,Wj e B]
   cases o9:(aj.left.any λw=>decide (eA t w≠qv))with
   |true=>
    rw[Zr o9]at Cp
    rw[adV tP b0 Cp]at wy
    rw[wy]
    refine fO (bc d8) @vr @tA @oL @oM ⟨?_⟩
    exact⟨rfl,Zo,λe B=>by rw[aB Zo Zo,ahz e Zo];exact AE e B⟩
   |false=>
    rw[Zh (by rw[o9];simp)]at Cp
    have ayL:cG X mh 2 (.ptr (dy+1+6) 0)=some (.agg [.str qv.1, .bool qv.2]):=by rw[iG,bc f1,bc f1,SN,SO];rfl
    refine pN ⟨?_⟩
    refine gi ?_
    refine d9 @vs (bc uP) (bc d8) @ayL (bc f1) @SN @SO ⟨?_⟩
    generalize Uw:Go.bd.bj X mh sU _=oT
    have as3:U X oT sU=zw [.Z 0, .Z 0] 2:=by rw[<-Uw,a7 Zo];rfl
    have FB:∀e,e<sU->U X oT e=U X mh e:=λe B=>by rw[<-Uw,aB Zo Zo]
    clear Uw
    rw[<-FB _ Zo]at tA uP d8 f1
    have Qj:∀e,e<dy->U X oT e=U X bZ e:=λe B=>by rw[FB e Zo,ahz e B]
    have AM:i1 X oT (λe=>e<aZ) (.ptr b6 0) t:=VU.aa (λe B=>Qj e Zo) (λ_ a=>a)
    have au8:cE X oT P aj.right kc:=cE.aa (λe B=>Qj e (zs (bq e B))) _ _ sB
    have OT:DU X oT (sU+1) sU none oT (sU+1):=⟨Zj _,⟨_,as3,rfl,rfl⟩,λ_ _ _=>rfl⟩
    refine(aD5 au t (C9 t) P (λe=>e<aZ) (sU+1) (.ptr b6 0) (DU X oT (sU+1) sU) 50 [] [.ptr sU 0, .ptr aZ 0] Zo (λe B=>zs (bq e B)) (λe B=>Zo)
     (λs h n a=>⟨a.le,AM.aa (λe B=>a.low e Zo Zo) (λ_ a=>a)⟩) (λs h n S' aN a gn z=>a.aa Zo gn z)
     (λ_ _=>True) (λ_ _ _ _ _ _=>trivial) (λs E v c h j a _ bC=>azu au Zo Zo AM (λe B=>⟨Zo,Zo⟩) Zo Zo (by rw[bc uP];rfl) bC (λe B=>by have:=bq e B;exact⟨Zo,Zo⟩) a) _ aj.right (Yi _) none kc qv oT (sU+1) OT trivial au8).Zm ?_
    rintro ac J5 gH ⟨rfl,Uq,af0,aGr,aGs⟩
    rw[<-aka]at Uq
    obtain⟨SQ,aeg,N0,acV⟩:=Uq.cell
    have fa:∀e,e<sU->U X J5 e=U X oT e:=λe B=>Uq.low e Zo Zo
    rw[<-fa _ Zo]at tA uP d8
    cases ag0:nA t aj.right qv none with
    |none=>
     rw[ag0]at Cp N0
     have SR:SQ.get 0=some (.Z 0):=N0
     refine fO (bc aeg) @SR @iq @XT @bz ⟨?_⟩
     exact⟨m,Zo,S+1,aL Dz,aL vr,aL vs,aL GB,aL Bk,a8,Zo,⟨Zo,λe B=>by rw[fa e Zo,Qj e Zo];exact el.aa e B⟩,asi tP b0 Cp⟩
    |some H=>
     rw[ag0]at Cp N0 acV
     rw[adV tP b0 Cp]at wy
     rw[wy]
     have SR:SQ.get 0=some (.Z 27):=N0
     have aqr:SQ.get 1=some (.Z H):=acV
     have aqX:decide ((27:Int)≠0)=true:=rfl
     refine d9 (bc aeg) @SR @aqr @aqX @vr @tA (Za @oL @oM) ⟨?_⟩
     exact⟨rfl,Zo,λe B=>by rw[aB Zo Zo,fa e Zo,Qj e Zo];exact AE e B⟩
 ·rw[Zr (by simpa using b7)]at wy
  rw[wy]
  have iq:decide (B5≠0)=true:=by simp[b7]
  refine fI @iq @bN @oL @oM ⟨?_⟩
  refine⟨rfl,Zo,λe B=> ?_⟩
  simp(disch:=omega) only[aB]
  exact In e B
end
def so(n:Nat):Nat->List Go.aT.Node->Int×Int
 |_,[]=>(0,0)
 |z,g::l=>if (vg g (decide (z+1=n))).1≠0 then vg g (decide (z+1=n))else so n (z+1) l
def MT(am:List Go.aT.Node):Int×Int:=if (k7 am).1≠0 then k7 am else so am.length 0 am
section
variable{X:cl}{h S' fi aI aM:Q af}{j an aO aZ:Nat}{P:Nat->Prop}
set_option maxRecDepth 100000 in
def aqy(au:iY X)(bU:mf X)(d6:sc X)(iN:xi X)(ey:DS X){am:List Go.aT.Node}{p:D}(aE:(o X).a2<=j)(b2:oS X h P am p)(bq:∀e,P e->(o X).a2<=e/\e<j)(bs:∀g∈am,oa jl g)(aX:am≠[])(aC:qR am=none):
 aU X 8 [p] h j (λac S' an=>ac= .agg [.Z (MT am).1, .Z (MT am).2]/\ba X h j S' an) (λ_ _ _=>False):=by
 refine zz au.todj (aow X) ?_
 rw[aox]
 unfold abG
 obtain⟨pT,mQ⟩:=Mr aC
 refine pD ?_
 generalize c6:Go.bd.bj X h j _=aI
 have bI:U X aI j=zw [.Z 0, .Z 0] 2:=by rw[<-c6,a7 aE];rfl
 have bH:ba X h j aI (j+1):=by rw[<-c6];exact dz
 clear c6
 have l9:∀e,P e->U X aI e=U X h e:=λe B=>bH.aa e (bq e B).2
 refine(acX (j:=j+1) au bU d6 iN ey Zo (b2.aa (bu:=P) l9 (λ_ a=>a)) (λe B=>by have:=bq e B;exact⟨this.1,Zo⟩) bs aX aC).Zm ?_
 rintro ac aM aZ ⟨bg,bx⟩
 have fJ:=bx.le
 rw[<-bx.aa _ Zo]at bI
 have hv:=bH.trans bx
 have sK:∃v,ac= .tuple [v, .agg [.Z (k7 am).1, .Z (k7 am).2]]:=by
  unfold DP at bg
  by_cases a:(k7 am).1=0
  ·rw[Zr a]at bg
   obtain⟨v,rfl,_⟩:=bg
   have R:(k7 am).2=0:=by
    unfold k7 at a ⊢
    by_cases ax:(re am).1≠0
    ·rw[Zr ax]at a;exact absurd a ax
    ·rw[Zh ax]at a ⊢
     cases b0:JE am with
     |some H=>rw[b0]at a;exact absurd a (show ¬(26:Int)=0 by decide)
     |none=>rfl
   exact⟨v,by rw[a,R]⟩
  ·rw[Zh a]at bg
   exact⟨_,bg⟩
 clear bg
 obtain⟨v,rfl⟩:=sK
 have rG:MT am=if (k7 am).1≠0 then k7 am else so am.length 0 am:=rfl
 generalize k7 am=Ba at rG ⊢
 obtain⟨rc,Xd⟩:=Ba
 by_cases ch:rc=0
 ·subst ch
  rw[Zh Zs]at rG
  have iq:decide ((0:Int)≠0)=false:=rfl
  obtain⟨b,aS,cO,bK,rfl,ag,a0,cB,kG⟩:=id b2
  have j6:=kG.wide
  have d0:=cB.len
  rw[j6.1]at d0
  have fP:=(bq b ag).2
  rw[<-hv.eV _ _ fP]at a0
  refine dI @iq @a0 @d0 ⟨?_⟩
  generalize fl:Go.bd.bj X _ aZ _=a1
  have c1:∀e,e<aZ->U X a1 e=U X aM e:=λe B=>by rw[<-fl];exact zy
  clear fl
  rw[<-c1 _ Zo]at bI
  have ck:ba X h j a1 (aZ+1):=⟨Zo,λe B=>by rw[c1 e Zo];exact hv.aa e B⟩
  refine fh (λm I S' aN=>∃(S:Nat),I.g 0=some (.ptr b 0)/\I.g 2=some (.ptr j 0)/\I.g 20=some aS/\I.g 21=some (.Z (am.length:Int))/\I.g 22=some (.Z (S:Int))/\S+m=am.length/\ba X h j S' aN/\j<aN/\U X S' j=zw [.Z 0, .Z 0] 2/\so am.length 0 am=so am.length S (am.drop S))
   am.length ⟨0,a8,a8,a8,a8,fq,Zo,ck,Zo,bI,rfl⟩ ?_
  rintro m I bA cK ⟨S,t0,eK,qf,rV,rW,bE,c0,aFL,dg,ij⟩
  have lm:∀e,P e->U X bA e=U X h e:=λe B=>c0.aa e (bq e B).2
  cases m with
  |zero=>
   have d:=zt S am.length
   rw[ZC Zo,so]at ij
   rw[rG,ij]
   refine d9 @rW @rV @d @eK @dg @oL @oM ⟨?_⟩
   exact⟨rfl,Zo,λe B=>by rw[aB Zo Zo];exact c0.aa e B⟩
  |succ m=>
   have d:=zu S am.length
   have bz:=zx S
   have cF:bn .sub (.Z (am.length:Int)) (.Z 1)=some (.Z ((am.length:Int) -1)):=wD Zo Zo
   have Ta:decide ((S:Int)=(am.length:Int) -1)=decide (S+1=am.length):=by by_cases a:S+1=am.length<;>simp[a]<;>omega
   obtain⟨g,nP⟩:=zv am S
   have tQ:=Zl nP
   have aF:am.drop S=g::am.drop (S+1):=by
    obtain⟨ae,B⟩:=Zc.1 nP
    rw[Zq ae,B]
   rw[aF,so]at ij
   obtain⟨row,e9,jK⟩:=kG.get S g nP
   have dp:=cB.fx S (by rw[j6.1];omega)
   have hz:=(cB.aa lm).row Zd e9
   have jL:=jK.jf
   have sG:=jK
   have xq:aP X bA (.ptr b 0)=some aS:=by rw[cv,c0.aa _ fP, <-hv.aa _ fP, <-cv];exact a0
   obtain⟨c7,dv,k9,eH,bY,co,cY,fM,ib,rfl,_⟩:=jK
   refine hu @rW @rV @qf @d @dp @hz ⟨?_⟩
   refine f8 (iH (z:=6) (b:=cK) (W:=0) (n:=6) (c:=Q.ofList [.str [], .Z 0, .aV, .aV, .aV, .aV] 0 .nil) (a7 Zo) Zo rfl Zd Zd jL) ?_
   generalize jI:Go.bd.bj X _ cK _=bM
   have fT:U X bM cK=zw [.str g.name, .Z g.at_,c7,dv,k9,eH] 6:=by rw[<-jI,a7 Zo];rfl
   have d7:∀e,e<cK->U X bM e=U X bA e:=λe B=>by rw[<-jI];exact zy
   clear jI
   rw[<-d7 _ Zo]at dg
   have ao5:aP X bM (.ptr b 0)=some aS:=zD (d7 _ Zo) xq
   refine hu @t0 (bc fT) @ao5 @d0 @cF @Ta ⟨?_⟩
   refine eN (λbZ=>U X bZ (cK+1+10)=zw [.Z 0, .Z 0] 2/\∀e,e<cK+1->U X bZ e=U X bM e) ⟨by rw[a7 Zo];rfl,λe B=>zy⟩ ?_
   rintro bZ ⟨dZ,c3⟩
   rw[<-c3 _ Zo]at dg
   have AE:∀e,e<j->U X bZ e=U X h e:=λe B=>by rw[c3 e Zo,d7 e Zo];exact c0.aa e B
   have AR:=(mQ g tQ).vars
   refine(azT (j:=cK+1+12) au.todj Zo (sG.aa (bu:=P) (λe B=>AE e (bq e B).2) (λ_ a=>a)) (λe B=>zs (bq e B)) (bs g tQ) (by simp[lf];omega) (by rw[Ep];simp only[oE];omega) (decide (S+1=am.length))).Zm ?_
   rintro ac ci dV ⟨rfl,ez⟩
   have nj:=ez.le
   rw[<-ez.aa _ Zo]at dg dZ
   have E1:∀e,e<j->U X ci e=U X h e:=λe B=>by rw[ez.aa e Zo];exact AE e B
   generalize vg g (decide (S+1=am.length))=A2 at ij ⊢
   obtain⟨B5,rk⟩:=A2
   by_cases b7:B5=0
   ·subst b7
    rw[Zh Zs]at ij
    refine fI @dZ @iq @rW @bz ⟨?_⟩
    exact⟨m,Zo,S+1,aL t0,aL eK,aL qf,aL rV,a8,Zo,⟨Zo,λe B=>by rw[aB Zo Zo];exact E1 e B⟩,Zo,by rw[aB Zo Zo];exact dg,ij⟩
   ·have bh:decide (B5≠0)=true:=by simp[b7]
    rw[Zr (by simpa using b7)]at ij
    rw[rG,ij]
    refine hu @dZ @bh @eK @dg @oL @oM ⟨?_⟩
    refine⟨rfl,Zo,λe B=> ?_⟩
    simp(disch:=omega) only[aB]
    exact E1 e B
 ·rw[Zr (by simpa using ch)]at rG
  have iq:decide (rc≠0)=true:=by simp[ch]
  rw[rG]
  refine fI @iq @bI @oL @oM ⟨?_⟩
  refine⟨rfl,Zo,λe B=> ?_⟩
  simp(disch:=omega) only[aB]
  exact hv.aa e B
end
end
open Go.bd
noncomputable section
variable (X : cl) (h : Q af) (j : Nat) (ah av : bJ) (a0 bb b5 a3 a4 a5 hR io ip : D)
def aaQ(a:aK)(b:D)(c:Q af)(d:Nat)(e _:bJ):Prop:=
 ap (c5 a c .eql 47 true b .aV) λf=>bk (λb c d=>ap (hC 0 [] [] d) λf=>gO a c d f.1 f.2 λc d f=>e4 b λb=>h0 (jC a d f 1 c b) d f λa b c=>e a b c) λa=>aR f (e .aV c d) (a (zA (cP [b]) 2 .aV 4 f) c d)
def amJ:c2 X 33 [a0] h j ah av=aaQ X a0 h j ah av:=Zk
def amI:cQ X 33 1=true:=Zk
end
noncomputable section
def vK(x:Can):List D:=[.bool x.any, .bool x.one, .str x.c.1, .bool x.c.2]
def mI(x:Can):D:= .agg (vK x)
section
variable{X:cl}{h S' fi aI aM:Q af}{j an aO aZ:Nat}{P nE:Nat->Prop}
def adD(H b:fA):∀h:Q af,c5 X h .eql 58 false (.agg [.str H.1, .bool H.2]) (.agg [.str b.1, .bool b.2])=some (.bool (decide (H=b))):=λh=>KG H b
def O2(au:dj X)(aE:(o X).a2<=j)(x:Can)(c:fA):
 aU X 14 [mI x,hb c] h j (λac S' an=>ac= .bool (ir x c)/\ba X h j S' an) (λ_ _ _=>False):=by
 refine zz au (ami X) ?_
 rw[amj]
 unfold aav mI vK hb
 refine pG (pG ?_)
 generalize c6:Go.bd.bj X _ (j+1) _=aI
 have bI:U X aI j=zw [.bool x.any, .bool x.one, .str x.c.1, .bool x.c.2] 4:=by rw[<-c6,aB Zo Zo,a7 aE];rfl
 have bN:U X aI (j+1)=zw [.str c.1, .bool c.2] 2:=by rw[<-c6,a7 Zo];rfl
 have bH:ba X h j aI (j+1+1):=by rw[<-c6];exact dz
 clear c6
 have b0:=adD (X:=X) x.c c aI
 unfold ir
 cases az:x.any with
 |true=>
  rw[az]at bI
  refine cd (bc bI) ⟨?_⟩
  exact⟨rfl,bH⟩
 |false=>
  cases bf:x.one with
  |false=>
   rw[az,bf]at bI
   refine cd (bc bI) ⟨?_⟩
   exact⟨rfl,bH⟩
  |true=>
   rw[az,bf]at bI
   refine dI (bc bI) (bc bN) @b0 ⟨?_⟩
   exact⟨rfl,bH⟩
def aqf(au:dj X)(aE:(o X).a2<=j)(x e:Can):
 aU X 34 [mI x,mI e] h j (λac S' an=>ac=mI (BT x e)/\ba X h j S' an) (λ_ _ _=>False):=by
 refine zz au (amK X) ?_
 rw[amL]
 unfold aaR mI vK
 refine pG (pG (pD ?_))
 generalize c6:Go.bd.bj X _ (j+1+1) _=aI
 have bI:U X aI j=zw [.bool x.any, .bool x.one, .str x.c.1, .bool x.c.2] 4:=by rw[<-c6];simp(disch:=omega) only[aB,a7]<;>rfl
 have bN:U X aI (j+1)=zw [.bool e.any, .bool e.one, .str e.c.1, .bool e.c.2] 4:=by rw[<-c6];simp(disch:=omega) only[aB,a7]<;>rfl
 have cH:U X aI (j+1+1)=zw [.zF, .zF, .str [], .zF] 4:=by rw[<-c6,a7 Zo];rfl
 have bH:ba X h j aI (j+1+1+1):=by rw[<-c6];exact dz
 clear c6
 have b0:=adD (X:=X) x.c e.c aI
 have fin:∀(cU:Option af),ba X h j (Go.bd.bj X aI (j+1+1) cU) (j+1+1+1):=λcU=>⟨Zo,λbm ch=>by rw[aB Zo Zo];exact bH.aa bm ch⟩
 unfold BT
 cases az:x.any with
 |true=>
  rw[az]at bI
  refine dI (bc bI) (bc bN) @cH ⟨?_⟩
  exact⟨rfl,fin _⟩
 |false=>
  cases ag:e.any with
  |true=>
   rw[az]at bI
   rw[ag]at bN
   refine dI (bc bI) (bc bN) @cH ⟨?_⟩
   exact⟨by simp[az],fin _⟩
  |false=>
   cases bf:x.one with
   |false=>
    rw[az,bf]at bI
    rw[ag]at bN
    refine dI (bc bI) (bc bN) @cH ⟨?_⟩
    exact⟨by simp[lh],fin _⟩
   |true=>
    cases aw:e.one with
    |false=>
     rw[az,bf]at bI
     rw[ag,aw]at bN
     refine dI (bc bI) (bc bN) @cH ⟨?_⟩
     exact⟨by simp[lh],fin _⟩
    |true=>
     rw[az,bf]at bI
     rw[ag,aw]at bN
     by_cases ag3:x.c=e.c
     ·have d:decide (x.c=e.c)=true:=by simp[ag3]
      rw[d]at b0
      refine fI (bc bI) (bc bN) @cH @b0 ⟨?_⟩
      exact⟨by simp[d,az,bf],fin _⟩
     ·have d:decide (x.c=e.c)=false:=by simp[ag3]
      rw[d]at b0
      refine fI (bc bI) (bc bN) @cH @b0 ⟨?_⟩
      exact⟨by simp[d,lh],fin _⟩
def azO:c5 X h .eql 47 true .aV .aV=some .zT:=Zk
def aCu(b W l c:Nat):c5 X h .eql 47 true (.slice b W l c) .aV=some .zF:=Zk
def aCB(b W l c:Nat):c5 X h .eql 47 true (.fj b W l c) .aV=some .zF:=Zk
def azP{aS:D}{n:Nat}(a:gz aS=some (.Z (n:Int))):(aS= .aV/\n=0)\/c5 X h .eql 47 true aS .aV=some .zF:=by
 cases aS with
 |aV=>rw[yn]at a;injection a with a;injection a with _ a;exact .inl ⟨rfl,Zo⟩
 |slice b W l c=>exact .inr (aCu b W l c)
 |fj b W l c=>exact .inr (aCB b W l c)
 |_=>simp[gz]at a
def aAq(l:List aY):jf (e3 l).flatten=true:=by
 induction l with
 |nil=>rfl
 |cons t l ai=>exact ai
def ajx(l:List aY):∀r∈e3 l,r.length=1:=by
 intro r Y
 obtain⟨c,_,rfl⟩:=ZI.1 Y
 rfl
def WU(au:dj X){l:List aY}{b b6:Nat}{aS:D}(aE:(o X).a2<=j)(M:aP X h (.ptr b6 1)=some aS)(cB:dL X h P b aS 1 (e3 l))(bp:l.length<=200000)(bq:∀e,P e->e<j):
 aU X 11 [.ptr b6 0] h j (λac S' an=>(∃dM,dL X S' (dr j an) dM ac 1 (e3 l))/\ba X h j S' an) (λ_ _ _=>False):=by
 refine zz au (als X) ?_
 rw[alt]
 unfold σ
 refine cI @adF @M ⟨?_⟩
 refine aU.mono (ah:=λac S' an=>(∃dM,dL X S' (dr j an) dM ac 1 (e3 l))/\ba X h j S' an) (av:=λ_ _ _=>False) ?_ (λac S' aN a=>a) (λ_ _ _ a=>a.elim)
 refine zz au (amI X) ?_
 rw[amJ]
 unfold aaQ
 have d0:=cB.len
 have g2:(e3 l).length=l.length:=by simp[e3]
 rw[g2]at d0
 rcases azP (X:=X) (h:=h) d0 with ⟨rfl,aX⟩|dQ
 ·have:l=[]:=ZU aX
  subst this
  refine cd @azO ⟨?_⟩
  exact⟨⟨0,dL.nil _ _⟩,ba.refl _ _⟩
 ·refine cd @dQ ⟨?_⟩
  generalize c6:Go.bd.bj X h j _=aI
  have bI:U X aI j=zw [] (0*1):=by rw[<-c6,a7 aE]
  have bH:ba X h j aI (j+1):=by rw[<-c6];exact dz
  clear c6
  have aD:=Q0 (cB.aa (λe B=>bH.aa e (bq e B))) Zd
  rw[g2]at aD
  by_cases aX:l=[]
  ·subst aX
   have E:jC X aI (j+1) 1 (.slice j 0 0 0) aS=some (.val (.slice j 0 0 0)):=by simp only[jC,aD];rfl
   refine Xk E ?_
   exact⟨⟨j,Jm (bK:=[]) bI rfl Zs Zo ⟨Zo,Zo⟩⟩,bH⟩
  ·have aJ:0<l.length:=Yk.2 aX
   have lI:(e3 l).flatten.length=l.length*1:=by rw[tz (ajx l),g2]
   obtain⟨eJ,aM,cq,az,qK,eC,iu⟩:=gk.append (j:=j+1) (l:=[]) (cq:=[j]) (m:=(e3 l).flatten) (.inr ⟨j,0,_, .own,rfl,rfl,rfl,bI,l8 []⟩) Zd aD lI aJ (aAq l) (by rw[lI];simp;omega) Zo Zs
   refine kb az ?_
   obtain⟨co,R⟩:=qK.qZ (P:=dr j (j+1+1)) (bK:=e3 l) Zd (ajx l) (by rw[g2];omega) (λe B=>by rcases(show e=j+1\/e=j by simpa using eC e B)with rfl|rfl<;>exact⟨Zo,Zo⟩)
   exact⟨⟨co,R⟩,⟨Zo,λe B=>by rw[iu e Zo Zx];exact bH.aa e B⟩⟩
end
def apv(t:aY->Option c8)(E:bD):lZ t E=ut t E (E.args.map (lZ t)):=by
 cases E with
 |mk z H nm no ty n args=>rw[lZ,So];rfl
def acU(l:List Can):∀r∈l.map vK,r.length=4:=by
 intro r Y
 obtain⟨c,_,rfl⟩:=ZI.1 Y
 rfl
def aCy{C:aK}{h:Q af}{j z:Nat}{s x:D}{l m:List D}{cq:List Nat}(a:gk C h s 4 l cq)(ae:lu C h 4 x=some (z,m))(bp:m.length=z*4)(aJ:0<z)(M:jf m=true)
 (ag:l.length+m.length<=4194304)(aE:C.a2<=j)(cZ:∀e∈cq,e<j):
 ∃eJ S' gf,jC C h j 4 s x=some (.fv eJ S' (j+1))/\jB C S' eJ 4 (l++m) gf/\(∀e∈gf,e=j\/e∈cq)/\∀e,e≠j->e∉cq->U C S' e=U C h e:=by
 have ch:0<4:=by decide
 rcases a with (⟨rfl,rfl,rfl⟩|⟨b,fp,n,c,rfl,R,rfl,aA,bv,b9,dl⟩)|⟨b,n,c,st,rfl,R,rfl,aA,bv⟩
 ·refine⟨_,_,[j],act ae aJ (by simp at ag;omega), .inr ⟨j,[],z,_,rfl,by simpa using bp,rfl,by simpa using aE,Zs,by rw[a7 aE,bp], ?_⟩,Zs,λe B _=>aB aE B⟩
  simpa using l8 m
 ·have fP:b<j:=cZ b (Zv ..)
  refine⟨_,_,j::b::fp,acr ch ae aJ Zo M (aA b (Zv ..)) b9, .inr ⟨j,b::fp,n+z,dS c (n*4) m,rfl,by rw[ZH,R,bp,Z0],rfl, ?_, ?_, ?_, ?_⟩, ?_,λe B Fo=> ?_⟩
  ·intro e B
   rcases Zt.1 B with rfl|B
   ·exact aE
   ·exact aA e B
  ·intro ax
   have:=cZ j ax
   omega
  ·rw[a7 aE,bp,Z0]
  ·rw[<-R];exact dl.app m
  ·intro e B
   rcases Zt.1 B with rfl|B
   ·exact .inl rfl
   ·exact .inr B
  ·simp only[Zt,YS]at Fo
   rw[aB aE B,aB (aA b (Zv ..)) Fo.1]
 ·refine⟨_,_,[j],acs ch ae aJ Zo aA bv R, .inr ⟨j,[],n+z,_,rfl,by rw[ZH,R,bp,Z0],rfl,by simpa using aE,Zs,by rw[a7 aE,ZH,R,bp,Z0],l8 _⟩,Zs,λe B _=>aB aE B⟩
section
variable{X:cl}{h S' fi aI aM:Q af}{j an aO aZ:Nat}{P nE:Nat->Prop}
set_option maxRecDepth 100000 in
def apw(au:dj X){b6:D}{t:aY->Option c8}:∀(N:Nat) (E:bD),SizeOf.sizeOf E<N->∀(v:D) (h:Q af) (j:Nat),(o X).a2<=j->i1 X h nE b6 t->(∀e,nE e->e<j)->cE X h P E v->(∀e,P e->e<j)->e5 jl E->
 aU X 13 [b6,v] h j (λac S' an=>ac=mI (lZ t E)/\ba X h j S' an) (λ_ _ _=>False):=by
 intro N
 induction N with
 |zero=>intro E a;omega
 |succ N ai=>
  intro E jn v h j aE be rs bC bq wC
  refine zz au (al6 X) ?_
  rw[al7]
  unfold aal
  rw[e5.eq]at wC
  obtain⟨agf,t7⟩:=wC
  refine pD ?_
  generalize c6:Go.bd.bj X h j _=aI
  have bI:U X aI j=zw [.zF, .zF, .str [], .zF] 4:=by rw[<-c6,a7 aE];rfl
  have bH:ba X h j aI (j+1):=by rw[<-c6];exact dz
  clear c6
  have tN:=cE.aa (λe B=>bH.aa e (bq e B)) _ _ bC
  obtain⟨b,aS,cO,br,rfl,ag,a0, -,b5,a3, -, -, -, -,ip,cB,has⟩:=id tN.open
  have fP:=bq b ag
  have d0:=cB.len
  have rH:=has.len
  rw[Zi,rH]at d0
  have hU:=cB.many
  rw[Zi,rH]at hU
  rw[apv]
  refine cI @ip @d0 ⟨?_⟩
  refine fh (λm I S' aN=>∃(S:Nat) (vP:D) (cq:List Nat),I.g 0=some b6/\I.g 1=some (.ptr b 0)/\I.g 4=some (.ptr j 0)/\I.g 5=some vP/\I.g 17=some aS/\I.g 18=some (.Z (E.args.length:Int))/\I.g 19=some (.Z (S:Int))/\S+m=E.args.length/\ba X aI (j+1) S' aN/\gk X S' vP 4 (((E.args.map (lZ t)).take S).map vK).flatten cq/\∀e∈cq,j<e/\e<aN)
   E.args.length ⟨0, .aV,[],a8,a8,a8,a8,a8,a8,fq,Zo,ba.refl _ _, .inl (.inl ⟨rfl,Zs,rfl⟩),λe B=>by simp at B⟩ ?_
  rintro m I aM aZ ⟨S,vP,cq,t0,t1,t4,t5,vm,wZ,rU,bE,bx,g2,eC⟩
  have fJ:=bx.le
  have Vf:∀e,e<j->U X aM e=U X h e:=λe B=>by rw[bx.aa e Zo];exact bH.aa e B
  cases m with
  |succ m=>
   have d:=zu S E.args.length
   have bz:=zx S
   obtain⟨H,az⟩:=zv E.args S
   obtain⟨w,nR,EO⟩:=has.get S H az
   obtain⟨cN,cA,eb⟩:=(cB.aa (λe B=>bx.aa e (zs (bq e B)))).one nR
   have eT:=Rb (Zl az)
   have axa:e5 jl H:=by
    have:∀(l:List bD),gl jl l->∀x∈l,e5 jl x:=by
     intro l
     induction l with
     |nil=>intro _ x ae;cases ae
     |cons e l mT=>
      intro a x ae
      rw[gl]at a
      rcases Zt.1 ae with rfl|ae
      ·exact a.1
      ·exact mT a.2 x ae
    exact this _ t7 H (Zl az)
   refine d9 @rU @wZ @vm @t5 @t0 @d (Za @cN @cA) ⟨?_⟩
   refine(ai H Zo w aM aZ Zo (be.aa (bu:=nE) (λe B=>Vf e (rs e B)) (λ_ a=>a)) (λe B=>zs (rs e B)) (cE.aa (λe B=>bx.aa e (zs (bq e B))) _ _ EO) (λe B=>zs (bq e B)) axa).Zm ?_
   rintro ac a1 bi ⟨rfl,ck⟩
   have iO:=ck.le
   generalize UG:lZ t H=o1
   have tJ:mI o1= .agg [.bool o1.any, .bool o1.one, .str o1.c.1, .bool o1.c.2]:=rfl
   rw[tJ]
   refine cx ⟨?_⟩
   generalize eS:Go.bd.bj X a1 bi _=bA
   have dg:U X bA bi=zw (vK o1) 4:=by rw[<-eS,a7 Zo];rfl
   have dJ:∀e,e<bi->U X bA e=U X a1 e:=λe B=>by rw[<-eS,aB Zo Zo]
   clear eS
   have lI:(((E.args.map (lZ t)).take S).map vK).flatten.length=S*4:=by rw[tz (acU _),Zi,YZ,Zi,Nat.min_eq_left Zo]
   obtain⟨eJ,bM,gf,ii,oz,wg,mx⟩:=aCy (j:=bi+1) (g2.aa (S':=bA) (λe B=>by have:=eC e B;rw[dJ e Zo,ck.aa e Zo])) (rT (z:=1) dg (l8 _) rfl 1) rfl Zd rfl (by rw[lI];simp[vK];omega) Zo (λe B=>zs (eC e B))
   refine kb ii ?_
   refine cI @rU @bz ⟨?_⟩
   have kI:(E.args.map (lZ t)).take (S+1)=(E.args.map (lZ t)).take S++[o1]:=by rw[ZQ,Zu,az, <-UG];rfl
   refine⟨m,Zo,S+1,eJ,gf,aL t0,aL t1,aL t4,a8,aL vm,aL wZ,a8,Zo,⟨Zo,λe B=>by rw[mx e Zo (λa=>zs (eC e a)),dJ e Zo,ck.aa e Zo];exact bx.aa e B⟩, ?_, ?_⟩
   ·rw[kI,ZX,YB,show([o1].map vK).flatten=vK o1 from by simp]
    exact .inl oz
   ·intro e B
    rcases wg e B with rfl|a
    ·omega
    ·have:=eC e a;omega
  |zero=>
   have d:=zt S E.args.length
   have gS:(E.args.map (lZ t)).length=E.args.length:=Zi ..
   rw[ZA Zo]at g2
   generalize E.args.map (lZ t)=L at g2 gS ⊢
   have bN:=bI
   rw[<-bx.aa _ Zo]at bN
   have co:aP X aM (.ptr b 2)=some (.str E.name):=by rw[bx.eV _ _ Zo];exact b5
   refine hu @rU @wZ @t0 @t1 @d @co ⟨?_⟩
   refine(vV (j:=aZ) au Zo (be.aa (bu:=nE) (λe B=>Vf e (rs e B)) (λ_ a=>a)) (λe B=>zs (rs e B)) E.name).Zm ?_
   rintro ac a1 bi ⟨rfl,ck⟩
   have iO:=ck.le
   have E6:eA t E.name=jm ((t E.name).getD ld).d:=rfl
   generalize (t E.name).getD ld=dX at E6 ⊢
   have nl:ky dX=[.Z dX.kind, .str dX.d.name, .Z dX.d.at_, .bool dX.d.ty.b, .bool dX.d.ty.s, .Z dX.d.ty.w, .str dX.d.on, .Z dX.d.et, .bool dX.d.no, .Z dX.eq, .Z dX.left]:=rfl
   rw[nl]
   refine cx ⟨?_⟩
   refine eN (λbA=>∀e,e<bi->U X bA e=U X a1 e) (λe B=>zy) ?_
   intro bA dJ
   refine(Hv (j:=bi+1) au Zo dX.d).Zm ?_
   rintro ac bM bX ⟨rfl,dC⟩
   have ik:=dC.le
   rw[<-E6]
   generalize wA:eA t E.name=own
   have d7:∀e,e<aZ->U X bM e=U X aM e:=λe B=>by rw[dC.aa e Zo,dJ e Zo,ck.aa e B]
   unfold hb
   refine pD ?_
   generalize f9:Go.bd.bj X bM bX _=bZ
   have dZ:U X bZ bX=zw [.str [], .zF] 2:=by rw[<-f9,a7 Zo];rfl
   have c3:∀e,e<bX->U X bZ e=U X bM e:=λe B=>by rw[<-f9,aB Zo Zo]
   clear f9
   refine f8 (iH (z:=2) (b:=bX) (W:=0) (n:=2) dZ Zo rfl Zd Zd rfl) ?_
   generalize jW:Go.bd.bj X bZ bX _=ci
   have d8:∃cc,U X ci bX=some (.cells cc 2 .own)/\cc.get 0=some (.str own.1)/\cc.get 1=some (.bool own.2):=⟨_,by rw[<-jW,a7 Zo],by exact oL _ _ _,by exact oM _ _ _⟩
   have ft:∀e,e<aZ->U X ci e=U X aM e:=λe B=>by rw[<-jW,aB Zo Zo,c3 e Zo,d7 e B]
   clear jW dZ c3 d7
   obtain⟨cc,d8,dB,cX⟩:=d8
   rw[<-ft _ Zo]at bN
   have b3:aP X ci (.ptr b 0)=some (.Z E.kind):=by rw[cv,ft _ Zo,bx.aa _ Zo, <-cv];exact a0
   have co:aP X ci (.ptr b 2)=some (.str E.name):=by rw[cv,ft _ Zo,bx.aa _ Zo, <-cv];exact b5
   have cY:aP X ci (.ptr b 3)=some (.bool E.no):=by rw[cv,ft _ Zo,bx.aa _ Zo, <-cv];exact a3
   have E1:∀e,e<j->U X ci e=U X h e:=λe B=>by rw[ft e Zo];exact Vf e B
   obtain⟨kr,E2⟩:=(g2.aa (S':=ci) (λe B=>ft e (eC e B).2)).qZ (P:=λe=>j<e/\e<aZ) Zd (acU L) (by rw[Zi];omega) eC
   have cR:cG X ci 2 (.ptr bX 0)=some (.agg [.str own.1, .bool own.2]):=by rw[iG,bc d8,bc d8,dB,cX];rfl
   have fin:∀(dk:Q af) (hH:Nat) (cU:Option af),bX<=hH->(∀e,e<bX->U X dk e=U X ci e)->ba X h j (Go.bd.bj X dk j cU) hH:=λdk hH cU eI gp=>⟨Zo,λbm ch=>by rw[aB aE Zo,gp bm Zo];exact E1 bm ch⟩
   clear g2 dC ck dJ bx bH
   by_cases bQ:E.kind=1
   ·have cT:decide (E.kind=1)=true:=by simp[bQ]
    have aD:ut t E L=⟨true,false,lh⟩:=by unfold ut;rw[Zr bQ]
    rw[aD]
    refine fO @b3 @cT @t4 @t1 @bN ⟨?_⟩
    exact⟨rfl,fin _ _ _ Zo (λ_ _=>rfl)⟩
   have cT:decide (E.kind=1)=false:=by simp[bQ]
   by_cases IR:E.kind=2
   ·have cy:decide (E.kind=2)=true:=by simp[IR]
    have aD:ut t E L=⟨false,true,own⟩:=by unfold ut;rw[Zh bQ,Zr IR,wA]
    rw[aD]
    refine d9 @b3 @cT @cy @t4 @t1 @bN @cR ⟨?_⟩
    exact⟨rfl,fin _ _ _ Zo (λ_ _=>rfl)⟩
   have cy:decide (E.kind=2)=false:=by simp[IR]
   have ae1:=E2.len
   rw[Zi,gS]at ae1
   have H8:∀(i:Nat) x,L[i]? =some x->cG X ci 4 (.ptr kr (i*4))=some (mI x):=λi x aG=>E2.row Zd (by rw[Zu,aG];rfl)
   have Po:∀(i:Nat),i<E.args.length->gy 4 vP (.Z (i:Int))=some (.ptr kr (i*4)):=λi aG=>E2.fx i (by rw[Zi];omega)
   by_cases c3:E.kind=6
   ·have g8:decide (E.kind=6)=true:=by simp[c3]
    have oq:=agf.tq 1 (by rw[c3];rfl)
    obtain⟨x,ae⟩:=zv L 0
    have aD:ut t E L=⟨false,ir x own,(E.name,E.no)⟩:=by unfold ut;rw[Zh bQ,Zh IR,Zr c3,wA,ae];rfl
    have rA:gy 4 vP (.Z 0)=some (.ptr kr 0):=by have:=Po 0 Zo;simpa using this
    have ni:cG X ci 4 (.ptr kr 0)=some (mI x):=by have:=H8 0 x ae;simpa using this
    have aym:cG X ci 2 (.ptr bX 0)=some (hb own):=cR
    rw[aD]
    clear cR
    refine d9 @b3 @cT @cy @g8 @t5 @t1 (Za @rA (Za @ni (Za @aym (Za @co @cY)))) ⟨?_⟩
    refine(O2 (j:=bX+1+16) au Zo x own).Zm ?_
    rintro ac dk hH ⟨rfl,gK⟩
    have x8:=gK.le
    rw[<-gK.aa _ Zo]at bN
    rw[<-gK.eV _ _ Zo]at co cY
    refine cd @co ⟨?_⟩
    refine f4 (by simp[D.same,qS]) ?_
    refine cd @cY ⟨?_⟩
    refine f4 (by simp[D.same]) ?_
    refine cI @t4 @bN ⟨?_⟩
    exact⟨rfl,fin _ _ _ Zo (λe B=>gK.aa e Zo)⟩
   have g8:decide (E.kind=6)=false:=by simp[c3]
   by_cases nS:E.kind=24
   ·have uJ:decide (E.kind=24)=true:=by simp[nS]
    have oq:=agf.tq 2 (by rw[nS];rfl)
    obtain⟨x,ae⟩:=zv L 0
    obtain⟨bm,ch⟩:=zv L 1
    have aD:ut t E L=⟨false,ir x (E.name,false)&&ir bm (E.name,true),own⟩:=by unfold ut;rw[Zh bQ,Zh IR,Zh c3,Zr nS,wA,ae,ch];rfl
    have rA:gy 4 vP (.Z 0)=some (.ptr kr 0):=by have:=Po 0 Zo;simpa using this
    have k1:gy 4 vP (.Z 1)=some (.ptr kr 4):=by have:=Po 1 Zo;simpa using this
    have ni:cG X ci 4 (.ptr kr 0)=some (mI x):=by have:=H8 0 x ae;simpa using this
    have pT:cG X ci 4 (.ptr kr 4)=some (mI bm):=by have:=H8 1 bm ch;simpa using this
    rw[aD]
    have tH:(D.agg [.str E.name, .zF])=hb (E.name,false):=rfl
    have ry:(D.agg [.str E.name, .zT])=hb (E.name,true):=rfl
    refine d9 @b3 @cT @cy @g8 @uJ @t5 (Za @t1 (Za @rA (Za @ni (Za @cR (Za @co @cY))))) ⟨?_⟩
    rw[tH]
    refine(O2 (j:=bX+1+23) au Zo x (E.name,false)).Zm ?_
    rintro ac dk hH ⟨rfl,gK⟩
    have x8:=gK.le
    rw[<-gK.aa _ Zo]at bN d8
    rw[<-gK.eV _ _ Zo]at co cY
    have Wk:cG X dk 2 (.ptr bX 0)=some (.agg [.str own.1, .bool own.2]):=by rw[iG,bc d8,bc d8,dB,cX];rfl
    cases ng:ir x (E.name,false)with
    |false=>
     refine cd @Wk ⟨?_⟩
     refine f4 (by simp[D.same,lO,qS]) ?_
     refine cd @Wk ⟨?_⟩
     refine f4 (by simp[D.same,lO,qS]) ?_
     refine cI @t4 @bN ⟨?_⟩
     exact⟨rfl,fin _ _ _ Zo (λe B=>gK.aa e Zo)⟩
    |true=>
     have avx:cG X dk 4 (.ptr kr 4)=some (mI bm):=(E2.aa (λe B=>gK.aa e Zo)).row (i:=1) Zd (by rw[Zu,ch];rfl)
     refine hu @t5 @k1 @avx @t1 @co @Wk ⟨?_⟩
     refine f4 (by simp[D.same,lO,qS]) ?_
     refine cx ⟨?_⟩
     rw[ry]
     refine(O2 (j:=hH) au Zo bm (E.name,true)).Zm ?_
     rintro ac dt fc ⟨rfl,gT⟩
     have pc:=gT.le
     rw[<-gT.aa _ Zo]at bN d8
     have ayn:cG X dt 2 (.ptr bX 0)=some (.agg [.str own.1, .bool own.2]):=by rw[iG,bc d8,bc d8,dB,cX];rfl
     refine cd @ayn ⟨?_⟩
     refine f4 (by simp[D.same,lO,qS]) ?_
     refine cI @t4 @bN ⟨?_⟩
     exact⟨rfl,fin _ _ _ Zo (λe B=>by rw[gT.aa e Zo,gK.aa e Zo])⟩
   have uJ:decide (E.kind=24)=false:=by simp[nS]
   have aD:ut t E L=KN L:=by unfold ut;rw[Zh bQ,Zh IR,Zh c3,Zh nS]
   rw[aD]
   refine d9 @b3 @cT @cy @g8 @uJ @t5 (Za @t1 @ae1) ⟨?_⟩
   generalize kZ:Go.bd.bj X _ (bX+1) _=dk
   have fH:∃oh,U X dk (bX+1)=some (.cells oh 4 .own)/\cG X dk 4 (.ptr (bX+1) 0)=some (mI ⟨true,false,lh⟩):=by
    have aj:U X dk (bX+1)=some (.cells (dS (Q.ofList [.zF, .zF, .str [], .zF] 0 .nil) 0 [.zT, .zF, .str [], .zF]) 4 .own):=by rw[<-kZ,a7 Zo];rfl
    exact⟨_,aj,by rw[sN,bc aj,bc aj,bc aj,bc aj];rfl⟩
   have gp:∀e,e<bX+1->U X dk e=U X ci e:=λe B=>by rw[<-kZ];exact zy
   clear kZ
   refine fh (λm I S' aN=>∃(S:Nat) (nb:Can),I.g 4=some (.ptr j 0)/\I.g 11=some (.ptr (bX+1) 0)/\I.g 95=some vP/\I.g 96=some (.Z (E.args.length:Int))/\I.g 97=some (.Z (S:Int))/\S+m=E.args.length/\bX+1<aN/\(∃oh,U X S' (bX+1)=some (.cells oh 4 .own)/\cG X S' 4 (.ptr (bX+1) 0)=some (mI nb))/\(∀e,e<bX+1->U X S' e=U X ci e)/\KN L=(L.drop S).foldl BT nb)
    E.args.length ⟨0,_,aL t4,a8,a8,a8,fq,Zo,Zo,fH,gp,rfl⟩ ?_
   clear t0 t1 t4 t5 vm wZ rU d
   rintro m I dt fc ⟨S,nb,t4,t11,ajJ,XN,XO,bE,agb,⟨oh,lH,p1⟩,hg,Lq⟩
   cases m with
   |zero=>
    have d:=zt S E.args.length
    rw[ZC Zo]at Lq
    rw[Lq]
    rw[<-hg _ Zo]at bN
    have tJ:mI nb= .agg [.bool nb.any, .bool nb.one, .str nb.c.1, .bool nb.c.2]:=rfl
    rw[tJ]at p1
    refine d9 @XO @XN @d @t11 @p1 @t4 @bN ⟨?_⟩
    exact⟨rfl,fin _ _ _ Zo (λe B=>hg e Zo)⟩
   |succ m=>
    have d:=zu S E.args.length
    have bz:=zx S
    obtain⟨bm,ch⟩:=zv L S
    have iE:L.drop S=bm::L.drop (S+1):=by
     obtain⟨ae,B⟩:=Zc.1 ch
     rw[Zq ae,B]
    rw[iE,ZS]at Lq
    have dp:=Po S Zo
    have hz:cG X dt 4 (.ptr kr (S*4))=some (.agg [.bool bm.any, .bool bm.one, .str bm.c.1, .bool bm.c.2]):=(E2.aa (λe B=>hg e Zo)).row Zd (by rw[Zu,ch];rfl)
    refine hu @XO @XN @ajJ @d @dp @hz ⟨?_⟩
    generalize o8:Go.bd.bj X _ fc _=fR
    have f1:U X fR fc=zw [.bool bm.any, .bool bm.one, .str bm.c.1, .bool bm.c.2] 4:=by rw[<-o8,a7 Zo];rfl
    have kq:∀e,e<fc->U X fR e=U X dt e:=λe B=>by rw[<-o8];exact zy
    clear o8
    have ahG:cG X fR 4 (.ptr (bX+1) 0)=some (mI nb):=by rw[<-p1,sN,sN];simp only[cv,kq _ agb]
    have azf:cG X fR 4 (.ptr fc 0)=some (mI bm):=by rw[sN,bc f1,bc f1,bc f1,bc f1];rfl
    rw[<-kq _ agb]at lH
    refine dI @t11 @ahG @azf ⟨?_⟩
    refine(aqf (j:=fc+1) au Zo nb bm).Zm ?_
    rintro ac mh dW ⟨rfl,rq⟩
    have Vc:=rq.le
    rw[<-rq.aa _ Zo]at lH
    generalize aE2:BT nb bm=xw at Lq ⊢
    have tJ:mI xw= .agg [.bool xw.any, .bool xw.one, .str xw.c.1, .bool xw.c.2]:=rfl
    rw[tJ]
    refine fI @t11 @lH @XO @bz ⟨?_⟩
    refine⟨m,Zo,S+1,xw,aL t4,aL t11,aL ajJ,aL XN,a8,Zo,Zo,⟨_,a7 Zo, ?_⟩,λe B=>by rw[aB Zo Zo,rq.aa e Zo,kq e Zo];exact hg e B,Lq⟩
    have aj:=a7 (C:=o X) (h:=mh) (b:=bX+1) (W:=some (.cells (dS oh 0 (D.agg [.bool xw.any, .bool xw.one, .str xw.c.1, .bool xw.c.2]).cells) 4 .own)) Zo
    rw[sN,bc aj,bc aj,bc aj,bc aj,gQ,gQ,gQ,gQ]
    rfl
end
def aqz{am:List Go.aT.Node}:∀(l:List Go.aT.Node) (z:Nat),(Hu am z l).1=0->∀g∈l,∃S,(ue am S g).1=0:=by
 intro l
 induction l with
 |nil=>intro z _ g b2;cases b2
 |cons H l ai=>
  intro z a g b2
  rw[Hu]at a
  split at a
  ·rename_i M;exact absurd a M
  ·rename_i M
   rcases Zt.1 b2 with rfl|b2
   ·exact⟨z,by simpa using M⟩
   ·exact ai _ a g b2
def yJ(v:c8):Int×eF:=(v.kind,v.d)
def aAB(z:Nat)(t:aY->Option c8)(x:aY×Nat)(w:aY):((rP z t x) w).map yJ=(t w).map yJ:=by
 unfold rP
 cases a:t x.1 with
 |none=>rfl
 |some v=>
  simp only[]
  split
  ·by_cases bs:w=x.1
   ·subst bs;simp[a,yJ]
   ·simp[bs]
  ·rfl
def ad6{α:Type}(s:(aY->Option c8)->α->(aY->Option c8))(aD:∀t x w,(s t x w).map yJ=(t w).map yJ):∀(l:List α) (t:aY->Option c8) (w:aY),(l.foldl s t w).map yJ=(t w).map yJ:=by
 intro l
 induction l with
 |nil=>intro t w;rfl
 |cons H l ai=>intro t w;rw[ZS,ai,aD]
def aDp(g:Go.aT.Node)(w:aY):(ec g w).map yJ=((nu g).1 w).map yJ:=
 ad6 _ (λt x w=>ad6 _ (λt e w=>aAB _ _ _ _) _ _ _) _ _ _
section
variable{t hp:aY->Option c8}
end
section
variable{t hp:aY->Option c8}
end
def n5(t:aY->Option c8):Nat->aY->Nat->Nat
 |0,_,s=>s
 |m+1,w,s=>if w=[]then s else n5 t m (eA t w).1 (s+1)
def aDc(t:aY->Option c8):∀(m:Nat) (w:aY) (s:Nat),n5 t m w s<=s+m:=by
 intro m
 induction m with
 |zero=>intro w s;rw[n5];exact Zj _
 |succ m ai=>
  intro w s
  rw[n5]
  split
  ·omega
  ·have:=ai (eA t w).1 (s+1);omega
def aDb(t:aY->Option c8):∀(m:Nat) (w:aY) (s:Nat),n5 t m w s=s+m↔∀i,i<m->mC t i w≠[]:=by
 intro m
 induction m with
 |zero=>intro w s;rw[n5];simp
 |succ m ai=>
  intro w s
  rw[n5]
  split
  ·rename_i a
   exact⟨λE=>Zo,λz=>absurd a (z 0 Zo)⟩
  ·rename_i a
   rw[show s+(m+1)=s+1+m by omega,ai]
   refine⟨λz i aG=> ?_,λz i aG=>z (i+1) Zo⟩
   cases i with
   |zero=>exact a
   |succ i=>exact z i Zo
def ve(t:aY->Option c8)(L:Nat)(w:aY):Bool:=decide (L<n5 t (L+1) (eA t w).1 0)
def wP(t:aY->Option c8)(aj:gt):Bool:=aj.left.all λw=>ir (lZ t aj.right) (eA t w)&&decide (eA t w=eA t (aj.left.headD []))
def QI(n z:Nat)(g:Go.aT.Node):Bool:=(g.d4.all λd=>decide (d.on=[]))&&(g.out.all λd=>decide (d.on=[])||decide (z+1=n))&&g.eqs.all (wP (ec g))
def vj(g:Go.aT.Node):Bool:=(kL g).any (ve (ec g) (kL g).length)
def Dh(n:Nat):Nat->List Go.aT.Node->Bool
 |_,[]=>true
 |z,g::l=>QI n z g&&Dh n (z+1) l
structure JW(g:Go.aT.Node):Prop where
 dec:∀d∈lf g,∃v,ec g d.name=some v/\v.d=d
 var:∀w v,ec g w=some v->v.d∈lf g
 WS:∀w,w∈kL g↔ec g w≠none
 on:∀d∈lf g,d.on≠[]->ec g d.on≠none
 no:∀d∈lf g,d.on=[]->d.no=false
def Tk{g:Go.aT.Node}{d:eF}:d∈lf g↔∃x∈gD g,x.2=d:=by
 simp only[lf,gD,Zz,ZI]
 constructor
 ·rintro(a|a|a)
  ·exact⟨(1,d), .inl ⟨d,a,rfl⟩,rfl⟩
  ·exact⟨(2,d), .inr (.inl ⟨d,a,rfl⟩),rfl⟩
  ·exact⟨(3,d), .inr (.inr ⟨d,a,rfl⟩),rfl⟩
 ·rintro⟨x,(⟨e,a,rfl⟩|⟨e,a,rfl⟩|⟨e,a,rfl⟩),rfl⟩
  ·exact .inl a
  ·exact .inr (.inl a)
  ·exact .inr (.inr a)
def az7:∀(l:List (Int×eF)) (s:(aY->Option c8)×List aY) (w:aY) (v:c8),s.1 w=some v->(l.foldl kM s).1 w=some v:=by
 intro l
 induction l with
 |nil=>intro s w v a;exact a
 |cons x l ai=>
  intro s w v a
  rw[ZS]
  refine ai _ w v ?_
  unfold kM
  by_cases aD:(s.1 x.2.name).isSome=true
  ·rw[Zr aD];exact a
  ·rw[Zh aD]
   simp only
   by_cases bs:w=x.2.name
   ·rw[<-bs,a]at aD;exact absurd rfl aD
   ·rw[Zh bs];exact a
def az9:∀(l:List (Int×eF)) (s:(aY->Option c8)×List aY),(l.map λx=>x.2.name).Nodup->(∀x∈l,s.1 x.2.name=none)->∀x∈l,(l.foldl kM s).1 x.2.name=some ⟨x.1,x.2, -1, -1⟩:=by
 intro l
 induction l with
 |nil=>intro s _ _ x ae;cases ae
 |cons H l ai=>
  intro s aE aD x ae
  rw[ZP,zk]at aE
  rw[ZS]
  have M:kM s H=(λw=>if w=H.2.name then some ⟨H.1,H.2, -1, -1⟩else s.1 w,s.2++[H.2.name]):=by
   unfold kM;rw[Zh (by rw[aD H (Zv ..)];simp)]
  rw[M]
  rcases Zt.1 ae with rfl|ae
  ·exact az7 _ _ _ _ (by simp only[ZE])
  ·refine ai _ aE.2 (λe B=> ?_) x ae
   simp only
   rw[Zh (λE=>aE.1 (by rw[<-E];exact ZI.2 ⟨e,B,rfl⟩))]
   exact aD e (Zw _ B)
def az6:∀(l:List (Int×eF)) (s:(aY->Option c8)×List aY) (w:aY) (v:c8),(l.foldl kM s).1 w=some v->s.1 w=some v\/∃x∈l,v.d=x.2:=by
 intro l
 induction l with
 |nil=>intro s w v a;exact .inl a
 |cons x l ai=>
  intro s w v a
  rw[ZS]at a
  rcases ai _ w v a with a|⟨e,B,E⟩
  ·unfold kM at a
   by_cases aD:(s.1 x.2.name).isSome=true
   ·rw[Zr aD]at a;exact .inl a
   ·rw[Zh aD]at a
    simp only at a
    by_cases bs:w=x.2.name
    ·rw[Zr bs]at a
     simp only[Zf]at a
     exact .inr ⟨x,Zv ..,by rw[<-a]⟩
    ·rw[Zh bs]at a;exact .inl a
  ·exact .inr ⟨e,Zw _ B,E⟩
def az8:∀(l:List (Int×eF)) (s:(aY->Option c8)×List aY),(∀w∈s.2,s.1 w≠none)->∀w∈(l.foldl kM s).2,(l.foldl kM s).1 w≠none:=by
 intro l
 induction l with
 |nil=>intro s a;exact a
 |cons x l ai=>
  intro s a
  rw[ZS]
  refine ai _ λw bs=> ?_
  unfold kM at bs ⊢
  by_cases aD:(s.1 x.2.name).isSome=true
  ·rw[Zr aD]at bs ⊢;exact a w bs
  ·rw[Zh aD]at bs ⊢
   simp only at bs ⊢
   by_cases E:w=x.2.name
   ·rw[Zr E];simp
   ·rw[Zh E]
    rcases Zz.1 bs with bs|bs
    ·exact a w bs
    ·simp at bs;exact absurd bs E
def Wg{g:Go.aT.Node}{w:aY}:((ec g w).map λv=>v.d)=((nu g).1 w).map λv=>v.d:=by
 have:=congrArg (Option.map Prod.snd) (aDp g w)
 simpa[yJ,Function.comp_def]using this
def atn{am:List Go.aT.Node}(a:(re am).1=0)(bs:∀g∈am,oa jl g){g:Go.aT.Node}(b2:g∈am):JW g:=by
 obtain⟨z,aJ⟩:=aqz am 0 a g b2
 unfold ue at aJ
 rw[aDL]at aJ
 have M:=(aBk (ec g) am z g.eqs (λ_=>none,vQ (ec g) g (yr am z g)) (λ_=>Zs)).1 aJ.1
 obtain⟨-,AF,jX⟩:=aq1.1 M.1
 have ru:=bs g b2
 have Az:∀d∈lf g,qn jl d:=by
  intro d aF
  simp only[lf,Zz]at aF
  rcases aF with a|a|a
  ·exact ru.d4 d a
  ·exact ru.out d a
  ·exact ru.loc d a
 refine⟨λd aF=> ?_,λw v bB=> ?_,λw=>⟨λbp aE=> ?_,ajM g w⟩,λd aF bf=> ?_,λd aF=>(Az d aF).no⟩
 ·obtain⟨x,ae,rfl⟩:=Tk.1 aF
  have E:=az9 (gD g) (λ_=>none,[]) AF (λ_ _=>rfl) x ae
  have aJ:=Wg (g:=g) (w:=x.2.name)
  rw[show(nu g).1 x.2.name=some ⟨x.1,x.2, -1, -1⟩ from E]at aJ
  cases be:ec g x.2.name with
  |none=>rw[be]at aJ;cases aJ
  |some v=>rw[be]at aJ;simp at aJ;exact⟨v,rfl,aJ⟩
 ·have aJ:=Wg (g:=g) (w:=w)
  rw[bB]at aJ
  cases bf:(nu g).1 w with
  |none=>rw[bf]at aJ;cases aJ
  |some hr=>
   rw[bf]at aJ
   simp at aJ
   rcases az6 _ _ _ _ bf with a|⟨x,ae,E⟩
   ·cases a
   ·exact Tk.2 ⟨x,ae,by rw[aJ,E]⟩
 ·have:=az8 (gD g) (λ_=>none,[]) Zs w bp
  have aJ:=Wg (g:=g) (w:=w)
  rw[aE]at aJ
  cases bf:(nu g).1 w with
  |none=>exact this bf
  |some hr=>rw[bf]at aJ;cases aJ
 ·obtain⟨x,ae,rfl⟩:=Tk.1 aF
  exact λaE=>jX x ae ⟨aE,bf⟩
def acF{α:Type}{p:α->Bool}{l:List α}:l.find? p=none↔∀x∈l,p x=false:=by
 rw[Y3];simp
section
variable{g:Go.aT.Node}
def aiy(d6:JW g){d:eF}(aF:d∈lf g):eA (ec g) d.name=jm d:=by
 obtain⟨v,bB,rfl⟩:=d6.dec d aF
 unfold eA;rw[bB];rfl
def atm(d6:JW g):∀w,ec g w≠none->eA (ec g) w=lh\/(ec g (eA (ec g) w).1≠none/\(eA (ec g) w).1≠[]):=by
 intro w bs
 cases bB:ec g w with
 |none=>exact absurd bB bs
 |some v=>
  have aF:=d6.var w v bB
  have E:eA (ec g) w=(v.d.on,v.d.no):=by unfold eA;rw[bB];rfl
  rw[E]
  by_cases bf:v.d.on=[]
  ·exact .inl (by rw[bf,d6.no _ aF bf];rfl)
  ·exact .inr ⟨d6.on _ aF bf,bf⟩
def acE(d6:JW g){d:eF}(aF:d∈lf g):xv (ec g) (C1 g) d=ve (ec g) (kL g).length d.name:=by
 have fU:∀w,ec g w≠none->w∈kL g:=λw=>(d6.WS w).2
 have M:=atm d6
 have ax:jm d=lh\/(ec g (jm d).1≠none/\(jm d).1≠[]):=by
  by_cases bf:d.on=[]
  ·exact .inl (by unfold jm;rw[bf,d6.no _ aF bf];rfl)
  ·exact .inr ⟨d6.on _ aF bf,bf⟩
 have Pa:=aqx fU M (C1 g) [] (jm d) (by simp[C1]) Zs Zs Zs ax
 have dd:=aDb (ec g) ((kL g).length+1) (jm d).1 0
 have gn:=aDc (ec g) ((kL g).length+1) (jm d).1 0
 unfold xv ve
 rw[aiy d6 aF]
 have key:(∃i,mC (ec g) i (jm d).1=[])↔∃i,i<=(kL g).length/\mC (ec g) i (jm d).1=[]:=by
  rcases ax with a|a
  ·refine⟨λ_=>⟨0,YK _,by rw[a];rfl⟩,λ⟨i,_,a⟩=>⟨i,a⟩⟩
  ·exact axH fU M a
 have:(pH (ec g) (C1 g) [] (jm d)).getLast?≠some lh↔(kL g).length<n5 (ec g) ((kL g).length+1) (jm d).1 0:=by
  rw[Ne,Pa,key]
  constructor
  ·intro a
   have:n5 (ec g) ((kL g).length+1) (jm d).1 0=0+((kL g).length+1):=dd.2 λi aG E=>a ⟨i,Zo,E⟩
   omega
  ·rintro a ⟨i,aG,E⟩
   exact dd.1 Zo i Zo E
 exact decide_eq_decide.2 this
def adz{aj:gt}{bG:iL}(aX:aj.left≠[])(wC:e5 bG aj.right)(t:aY->Option c8):xI t aj=none↔wP t aj=true:=by
 obtain⟨bl,gV,rI⟩:∃bl gV,aj.left=bl::gV:=by
  cases a:aj.left with
  |nil=>exact absurd a aX
  |cons H l=>exact⟨H,l,rfl⟩
 have gx:aj.left.headD []=bl:=by rw[rI];rfl
 unfold xI wP
 rw[gx]
 have az:=acj (t:=t) aj.right (eA t bl) wC
 by_cases o9:(aj.left.any λw=>decide (eA t w≠eA t bl))=true
 ·rw[Zr o9]
  refine⟨λa=>(by cases a),λa=> ?_⟩
  rw[List.any_eq_true]at o9
  obtain⟨w,bs,M⟩:=o9
  rw[Yw]at a
  have:=a w bs
  simp only[Zp,Zg]at this
  simp only[Zg]at M
  exact absurd this.2 M
 ·rw[Zh o9, <-az]
  have k0:∀w∈aj.left,eA t w=eA t bl:=λw bs=>by
   rw[List.any_eq_true]at o9
   exact Classical.byContradiction λE=>o9 ⟨w,bs,by simpa using E⟩
  rw[Yw]
  refine⟨λa w bs=> ?_,λa=> ?_⟩
  ·rw[k0 w bs,a];simp
  ·have:=a bl (by rw[rI];exact Zv ..)
   simp only[Zp]at this
   exact this.1
def azU(d6:JW g)(ru:oa jl g)(n z:Nat):((vg g (decide (z+1=n))).1=0↔QI n z g=true/\vj g=false)/\((vg g (decide (z+1=n))).1=0\/(vg g (decide (z+1=n))).1=27\/((vg g (decide (z+1=n))).1=25/\vj g=true)):=by
 have PR:vj g=true↔∃d∈lf g,xv (ec g) (C1 g) d=true:=by
  unfold vj
  rw[List.any_eq_true]
  constructor
  ·rintro⟨w,bs,aC⟩
   cases bB:ec g w with
   |none=>exact absurd bB ((d6.WS w).1 bs)
   |some v=>
    have aF:=d6.var w v bB
    refine⟨v.d,aF, ?_⟩
    rw[acE d6 aF]
    unfold ve at aC ⊢
    rw[aiy d6 aF]
    have E:eA (ec g) w=jm v.d:=by unfold eA;rw[bB];rfl
    rw[E]at aC;exact aC
  ·rintro⟨d,aF,ag⟩
   obtain⟨v,bB,L1⟩:=d6.dec d aF
   exact⟨d.name,(d6.WS _).2 (by rw[bB];simp),by rw[<-acE d6 aF];exact ag⟩
 have wc:(rb g (decide (z+1=n))).find? (λd=>decide (d.on≠[]))=none↔((g.d4.all λd=>decide (d.on=[]))&&(g.out.all λd=>decide (d.on=[])||decide (z+1=n)))=true:=by
  rw[acF]
  simp only[Zp,Yw,Y4,Zg]
  unfold rb
  by_cases aJ:z+1=n
  ·simp[aJ]
  ·simp only[aJ,Yh,Zy,ZD,Zz,Ym]
   refine⟨λa=>⟨λd aF=>by simpa using a d (.inl aF),λd aF=>by simpa using a d (.inr aF)⟩,λa d aF=> ?_⟩
   rcases aF with aF|aF
   ·simpa using a.1 d aF
   ·simpa using a.2 d aF
 have US:g.eqs.findSome? (xI (ec g))=none↔g.eqs.all (wP (ec g))=true:=by
  rw[List.findSome?_eq_none_iff,Yw]
  exact⟨λa aj b0=>(adz ((ru.eqs aj b0).some) ((ru.eqs aj b0).right) _).1 (a aj b0),λa aj b0=>(adz ((ru.eqs aj b0).some) ((ru.eqs aj b0).right) _).2 (a aj b0)⟩
 have LH:QI n z g=((g.d4.all λd=>decide (d.on=[]))&&(g.out.all λd=>decide (d.on=[])||decide (z+1=n))&&g.eqs.all (wP (ec g))):=rfl
 unfold vg mJ
 cases ag:(rb g (decide (z+1=n))).find? (λd=>decide (d.on≠[]))with
 |some d=>
  simp only[ne_eq,show ¬(27:Int)=0 from by decide,ZG,ZE,false_iff,true_or,or_true,Yc,false_or]
  rw[LH]
  rintro⟨M,_⟩
  rw[Zp]at M
  rw[wc.2 M.1]at ag
  cases ag
 |none=>
  have ng:=wc.1 ag
  simp only[]
  cases bB:(lf g).find? (xv (ec g) (C1 g))with
  |some d=>
   have Y:vj g=true:=PR.2 ⟨d,List.mem_of_find?_eq_some bB,List.find?_some bB⟩
   simp only[ne_eq,show ¬(25:Int)=0 from by decide,ZG,ZE,false_iff,Y]
   refine⟨λa=>absurd a.2 Zs, .inr (.inr ⟨trivial,trivial⟩)⟩
  |none=>
   have Y:vj g=false:=by
    cases b0:vj g with
    |false=>rfl
    |true=>
     obtain⟨d,aF,H5⟩:=PR.1 b0
     rw[acF]at bB
     rw[bB d aF]at H5;cases H5
   simp only[ne_eq,not_true_eq_false,ZD,Y,Yc]
   cases b7:g.eqs.findSome? (xI (ec g))with
   |some H=>
    refine⟨⟨λa=>absurd a (show ¬(27:Int)=0 by decide),λa=> ?_⟩, .inr (.inl rfl)⟩
    rw[LH,Zp]at a
    rw[US.2 a.2]at b7;cases b7
   |none=>
    refine⟨⟨λ_=> ?_,λ_=>rfl⟩, .inl rfl⟩
    rw[LH,ng,US.1 b7];rfl
end
def ap4{am:List Go.aT.Node}(a:(re am).1=0)(bs:∀g∈am,oa jl g)(n:Nat):∀(l:List Go.aT.Node) (z:Nat),(∀g∈l,g∈am)->
 ((so n z l).1=0↔Dh n z l=true/\l.any vj=false)/\((so n z l).1=0\/(so n z l).1=27\/((so n z l).1=25/\l.any vj=true)):=by
 intro l
 induction l with
 |nil=>intro z _;simp[so,Dh]
 |cons g l ai=>
  intro z aC
  have b2:=aC g (Zv ..)
  obtain⟨bb,b5⟩:=azU (atn a bs b2) (bs g b2) n z
  obtain⟨bY,co⟩:=ai (z+1) λx ae=>aC x (Zw _ ae)
  rw[so,Dh,List.any_cons]
  generalize vg g (decide (z+1=n))=f at bb b5 ⊢
  by_cases b7:f.1=0
  ·rw[Zh (by simpa using b7)]
   obtain⟨cX,dN⟩:=bb.1 b7
   rw[cX,dN,zi,Bool.false_or]
   exact⟨bY,co⟩
  ·rw[Zr b7]
   refine⟨⟨λE=>absurd E b7,λ⟨bz,cF⟩=> ?_⟩, ?_⟩
   ·rw[Zp]at bz
    rw[Bool.or_eq_false_iff]at cF
    exact bb.2 ⟨bz.1,cF.1⟩
   ·rcases b5 with b5|b5|b5
    ·exact absurd b5 b7
    ·exact .inr (.inl b5)
    ·exact .inr (.inr ⟨b5.1,by rw[b5.2];rfl⟩)
section
variable{X:cl}{h S' fi aI aM:Q af}{j an aO aZ:Nat}
def azt{C:aK}{h:Q af}(x e:Int):ts C h .min [3,3] [.int .i64 x, .int .i64 e]=some (.int .i64 (min x e)):=by
 show pC false (.int .i64 x) [.int .i64 e]=_
 simp only[pC,fN,u9]
 congr 2
 simp only[Zg]
 split<;>simp_all<;>omega
def ayW:∀{l:List Go.aT.Node}{z H:Int},sP l=some (z,H)->z=30\/z=22:=by
 intro l
 induction l with
 |nil=>intro z H a;cases a
 |cons g l ai=>
  intro z H a
  unfold sP at a
  split at a
  ·cases a;exact .inl rfl
  ·split at a
   ·cases a;exact .inr rfl
   ·exact ai a
def aAP{s:aY}(aD:s.length<=5000){z H:Int}(a:Dm s= .error (z,H)):z≠0:=by
 have M:=aiO aD
 rw[a]at M
 unfold Dn at M
 split at M
 ·cases M
 ·cases M;decide
 ·split at M
  ·cases M
  ·cases M;decide
  ·split at M
   ·rename_i aC
    cases M
    unfold qR at aC
    split at aC
    ·cases aC;decide
    ·rcases ayW aC with rfl|rfl<;>decide
   ·cases M
end
end
end Go.Proofs.YtpeabpmnlmaabaaGreatDoor

