/- A part of the proof of the claim's last text: what it is used for is said there; no condition of its own. -/
import Derived.Test.YtpfajohmofnkfaaGreatDoorYv
set_option maxHeartbeats 8000000
set_option linter.unusedVariables false
set_option linter.unusedSimpArgs false
namespace Go.Proofs.YtpfajohmofnkfaaGreatDoor
open Go.al Go.bh
noncomputable section
def s4(s:(a1->Option f1)×List a1)(x:Int×el):(a1->Option f1)×List a1:=
 if (s.1 x.2.name).isSome then s else(λw=>if w=x.2.name then some ⟨x.1,x.2, -1, -1⟩else s.1 w,s.2++[x.2.name])
def rU(B:Nat)(t:a1->Option f1)(x:a1×Nat):a1->Option f1:=match t x.1 with
 |some v=>if v.eq<0 then(λw=>if w=x.1 then some ⟨v.kind,v.d,B,x.2⟩else t w)else t
 |none=>t
def E7(t:a1->Option f1)(x:fg×Nat):a1->Option f1:=x.1.left.zipIdx.foldl (rU x.2) t
def o7(g:Go.bh.Node):(a1->Option f1)×List a1:=(eC g).foldl s4 (λ_=>none,[])
def hB(g:Go.bh.Node):a1->Option f1:=g.eqs.zipIdx.foldl E7 (o7 g).1
def LO(g:Go.bh.Node):List a1:=(o7 g).2
def wx(t:a1->Option f1):a1->Option H:=λw=>(t w).map λv=> .agg (ph v)
theorem I0{α:Type}{l:List α}{i:Nat}{x:α}(a:l[i]? =some x):l.zipIdx[i]? =some (x,i):=by
 rw[List.getElem?_zipIdx,a];simp
section
variable{X:cD}{h V ft bb aV:U an}{k av aQ bp:Nat}
structure q2(X:cD)(et:U an)(cX mA dC bP:Nat)(t:a1->Option f1)(mc:List a1)(h:U an)(n:Nat):Prop where
 le:bP<=n
 map:jV X h mA (wx t)
 Fu:∃c bx db,ab X h dC=some (.cells c 2 .own)/\c.get 0=some (.map mA)/\c.get 1=some bx/\hE X h bx 1 (mc.map .str) db/\∀j∈db,bP<=j/\j<n
 low:∀j,j<cX->j≠mA->j≠dC->ab X h j=ab X et j
theorem q2.af{et:U an}{cX mA dC bP:Nat}{t:a1->Option f1}{mc:List a1}(a:q2 X et cX mA dC bP t mc bb aQ)(Hn:mA<cX)(l3:dC<cX)(nr:cX<=bP)(aS:aQ<=bp)(aP:∀j,j<aQ->(j<cX\/bP<=j)->ab X aV j=ab X bb j):q2 X et cX mA dC bP t mc aV bp:=by
 have fX:=a.le
 refine⟨Zo,a.map.af (aP _ Zo Zo), ?_,λj M R au=>by rw[aP j Zo Zo];exact a.low j M R au⟩
 obtain⟨c,bx,db,b9,b3,g3,ec,g5⟩:=a.Fu
 exact⟨c,bx,db,by rw[aP _ Zo Zo];exact b9,b3,g3,ec.af (λj T=>by have:=g5 j T;exact aP j Zo Zo),λj T=>by have:=g5 j T;omega⟩
theorem apZ(aA:d7 X){P:Nat->Prop}{g:Go.bh.Node}{row:List H}(aS:(y X).bj<=k)(co:∀j,P j->j<k)(bV:pj X h P g row)(bi:(eC g).length<=300000):
 a6 X 32 [.agg row] h k (λad V av=>∃dC mA bx b,ad= .ptr dC 0/\ef k av dC/\ef k av mA/\ao X V (.ptr dC 0)=some (.map mA)/\jV X V mA (wx (hB g))/\ao X V (.ptr dC 1)=some bx/\ej X V (ef k av) b bx 1 (hX (LO g))/\bB X h k V av) (λ_ _ _=>False):=by
 refine Jz (afJ X) (aA.none _ _ rfl) ?_
 rw[afK]
 unfold TT
 obtain⟨dk,dK,bx,fG,dr,eu,eI,jZ,b6,rfl,ru,rv,rx,ms,e2⟩:=bV
 refine c0 ⟨?_⟩
 refine eZ (λbb=>ab X bb k=some (.cells (U.ofList [.str g.name, .int .i64 g.at_,dk,dK,bx,fG] 0 .nil) 6 .own)
  /\ab X bb (k+1)=some (.map [] 0)/\ab X bb (k+1+1)=some (.cells (U.ofList [.map (k+1), .aU] 0 .nil) 2 .own)/\ao X bb (.ptr (k+1+1+1) 0)=some (.ptr (k+1+1) 0)/\bB X h k bb (k+1+1+1+1)) ⟨by(first|assumption|(simp(disch:=omega) only[bq,aK]<;>rfl)|(simp(disch:=omega) only[bq,aK])),by(first|assumption|(simp(disch:=omega) only[bq,aK]<;>rfl)|(simp(disch:=omega) only[bq,aK])),by(first|assumption|(simp(disch:=omega) only[bq,aK]<;>rfl)|(simp(disch:=omega) only[bq,aK])),by rw[c4,bq Zo];rfl,dR⟩ ?_
 rintro bb ⟨jK,b9,b3,g3,b8⟩
 refine(JU aA Zo).Zm ?_
 rintro ad aV bp ⟨rfl,rfl,ct,b1,dT,fc⟩
 have lX:bB X h k aV (k+1+1+1+1+1):=b8.trans ct
 have qz:∀j,P j->ab X aV j=ab X h j:=λj T=>lX.af j (co j T)
 rw[<-ct.af _ Zo]at jK b9 b3
 rw[<-ct.fy _ _ Zo]at g3
 generalize Xz:k+1+1+1+1+1=cX at*
 refine gh ?_
 refine JV (P:=P) (g:=g) (dr:=dr) (eu:=eu) (eI:=eI) (dk:=dk) (dK:=dK) (bx:=bx) aA (λi V aY=>q2 X aV cX (k+1) (k+1+1) (cX+2) (((eC g).take i).foldl s4 (λ_=>none,[])).1 (((eC g).take i).foldl s4 (λ_=>none,[])).2 V aY/\(((eC g).take i).foldl s4 (λ_=>none,[])).2.length<=i) Zo Zo Zo Zo
  (ru.af qz) (rv.af qz) (rx.af qz) b1 dT fc (λi V aY a=>⟨a.1.le,λj T=>a.1.low j (by have:=co j T;omega) (by have:=co j T;omega) (by have:=co j T;omega)⟩)
  (λi bb aQ aV bp a fX aP=>⟨a.1.af Zo Zo Zo fX (λj M R=>aP j M Zo),a.2⟩)
  (λV b7=>⟨⟨Zj _,⟨[],0,by rw[b7.af _ Zo];exact b9,λ_=>rfl⟩,⟨_, .aU,[],by rw[b7.af _ Zo];exact b3,rfl,rfl, .inl (.inl ⟨rfl,rfl,rfl⟩),λj T=>by simp at T⟩,λj T _ _=>b7.af j T⟩,Zs⟩) ?_ ?_
 ·intro mk i eE d bo bw aN ge iK ig
  rw[qn s4 _ aN]
  generalize ((eC g).take i).foldl s4 (λ_=>none,[])=bS at ge ⊢
  obtain⟨ge,fj⟩:=ge
  have auz:=(Zc.1 aN).1
  have fX:=ge.le
  have je:eO d=[.str d.name, .int .i64 d.at_, .bool d.ty.b, .bool d.ty.s, .int .i64 d.ty.w, .str d.on, .int .i64 d.fP, .bool d.no]:=rfl
  rw[je]
  unfold rY
  refine c0 ⟨?_⟩
  generalize hw:bm X _ bw _=bX
  have ec:ab X bX bw=some (.cells (U.ofList [.str d.name, .int .i64 d.at_, .bool d.ty.b, .bool d.ty.s, .int .i64 d.ty.w, .str d.on, .int .i64 d.fP, .bool d.no] 0 .nil) 8 .own):=by rw[<-hw,bq Zo];rfl
  have eK:∀j,j<bw->ab X bX j=ab X bo j:=λj T=>by rw[<-hw];simp(disch:=omega) only[aK]
  clear hw
  refine⟨by rw[eK _ Zo];exact ig, ?_⟩
  generalize lY:bm X bX (cX+1) _=b4
  have g5:ab X b4 (cX+1)=some (mk .busy none):=by rw[<-lY,bq Zo]
  have eR:∀j,j≠cX+1->ab X b4 j=ab X bX j:=λj T=>by rw[<-lY,aK Zo T]
  clear lY
  have hV:=ge.af (aV:=b4) (bp:=bw+1) Zo Zo Zo Zo (λj M R=>by rw[eR j Zo,eK j M])
  rw[<-eR _ Zo]at ec
  have tH:ab X b4 cX=some (.deferred (some [])):=by rw[eR _ Zo,eK _ Zo];exact iK
  have eI:ao X b4 (.ptr (k+1+1+1) 0)=some (.ptr (k+1+1) 0):=by rw[c4,hV.low _ Zo Zo Zo, <-c4];exact g3
  obtain⟨ky,av5,ahe,eH,fk,hh,nH,mE⟩:=hV.Fu
  have hx:iZ X b4 9 (.agg [.int .i64 0, .str [], .int .i64 0, .bool false, .bool false, .int .i64 0, .str [], .int .i64 0, .bool false, .int .i64 0, .int .i64 0]) (.map (k+1)) (.str d.name) true=some (.tuple [.agg (ph ((bS.1 d.name).getD wA)), .bool (bS.1 d.name).isSome]):=by
   rw[xO hV.map];unfold wx;cases bS.1 d.name<;>rfl
  generalize Ce:(bS.1 d.name).getD wA=eY at hx
  have uh:ph eY=[.int .i64 eY.kind, .str eY.d.name, .int .i64 eY.d.at_, .bool eY.d.ty.b, .bool eY.d.ty.s, .int .i64 eY.d.ty.w, .str eY.d.on, .int .i64 eY.d.fP, .bool eY.d.no, .int .i64 eY.eq, .int .i64 eY.left]:=rfl
  rw[uh]at hx
  have h4:∀V aY (G:(a1->Option f1)×List a1),q2 X aV cX (k+1) (k+1+1) (cX+2) G.1 G.2 V aY->G.2.length<=i+1->ab X V cX=some (.deferred (some []))->(H.bool true=H.bool true/\(q2 X aV cX (k+1) (k+1+1) (cX+2) G.1 G.2 (bm X V (cX+1) (some (mk .ready none))) aY/\G.2.length<=i+1)/\ab X (bm X V (cX+1) (some (mk .ready none))) cX=some (.deferred (some []))/\ab X (bm X V (cX+1) (some (mk .ready none))) (cX+1)=some (mk .ready none)):=λV aY G a aE R=>
   ⟨rfl,⟨a.af Zo Zo Zo (Zj _) (λj M R=>aK Zo Zo),aE⟩,by rw[aK Zo Zo];exact R,bq Zo⟩
  refine w6 ⟨?_⟩
  refine gh ?_
  refine gd @eI (bW eH) @fk (bW ec) @hx ⟨?_⟩
  generalize hJ:bm X _ (bw+1+10) _=ck
  have ed:∀j,j<bw+1->ab X ck j=ab X b4 j:=λj T=>by rw[<-hJ];simp(disch:=omega) only[aK]
  clear hJ hx
  have h3:q2 X aV cX (k+1) (k+1+1) (cX+2) bS.1 bS.2 ck (bw+1+13):=hV.af Zo Zo Zo Zo (λj M R=>ed j M)
  rw[<-ed _ Zo]at ec g5 tH
  have Bh:ao X ck (.ptr (k+1+1+1) 0)=some (.ptr (k+1+1) 0):=by rw[c4,ed _ Zo, <-c4];exact eI
  have abG:ab X ck (k+1+1)=some (.cells ky 2 .own):=by rw[ed _ Zo];exact eH
  cases aH:bS.1 d.name with
  |some atw=>
   have fV:s4 bS (eE,d)=bS:=by unfold s4;rw[Zr (by simp[aH])]
   rw[fV]
   simp only[Z4]
   refine c0 ⟨?_⟩
   exact⟨⟨.busy,none,g5⟩,h4 _ _ bS (h3.af Zo Zo Zo Zo (λ_ _ _=>rfl)) Zo tH⟩
  |none=>
   have fV:s4 bS (eE,d)=(λw=>if w=d.name then some ⟨eE,d, -1, -1⟩else bS.1 w,bS.2++[d.name]):=by unfold s4;rw[Zg (by simp[aH])]
   rw[fV]
   simp only[ZX]
   refine hk @Bh (bW abG) @fk (bW ec) ⟨?_⟩
   generalize jy:bw+1+13+10=N
   obtain⟨cC,mX,Ww,qu⟩:=EX (k:=N) (show(y X).bj<=k+1 by omega) h3.map d.name (.agg (ph ⟨eE,d, -1, -1⟩))
   refine kI mX ?_
   have UC:ao X cC (.ptr (k+1+1+1) 0)=some (.ptr (k+1+1) 0):=by rw[c4,qu _ Zo, <-c4];exact Bh
   have abH:ab X cC (k+1+1)=some (.cells ky 2 .own):=by rw[qu _ Zo];exact abG
   rw[<-qu _ Zo]at ec g5 tH
   refine hk @UC (bW abH) @hh (bW ec) ⟨?_⟩
   generalize tP:bm X cC (N+7) _=dQ
   have aij:ab X dQ (N+7)=some (.cells (U.ofList [.str d.name] 0 .nil) 1 .own):=by rw[<-tP,bq Zo]
   have im:∀j,j<N->ab X dQ j=ab X cC j:=λj T=>by rw[<-tP];simp(disch:=omega) only[aK]
   clear tP mX
   obtain⟨fZ,dL,iE,j3,X0,WI,pF⟩:=(nH.af (V:=dQ) (λj T=>by have:=mE j T;rw[im j Zo,qu j Zo,ed j Zo])).append (k:=N+12) Zd (s9 aij (o1 _) rfl _) rfl Zd rfl (by simp;omega) Zo (λj T=>by have:=mE j T;omega)
   refine kI j3 ?_
   have gm:∀j,j<N->j∉ahe->ab X dL j=ab X cC j:=λj T a=>by rw[pF j Zo a,im j T]
   have ag6:ao X dL (.ptr (k+1+1+1) 0)=some (.ptr (k+1+1) 0):=by rw[c4,gm _ Zo (λa=>by have:=mE _ a;omega), <-c4];exact UC
   have aq8:ab X dL (k+1+1)=some (.cells ky 2 .own):=by rw[gm _ Zo (λa=>by have:=mE _ a;omega)];exact abH
   refine cx @ag6 ⟨?_⟩
   refine jH (by simp[H.same]) ?_
   obtain⟨fe,hg,wl⟩:=kb.one X0
   refine fH (qO aq8 Zo Zo fe hg) ?_
   refine c0 ⟨?_⟩
   generalize vG:bm X dL (k+1+1) _=et
   have abJ:ab X et (k+1+1)=some (.cells (ky.set 1 (some fZ)) 2 .own):=by rw[<-vG,bq Zo]
   have ji:∀j,j≠k+1+1->ab X et j=ab X dL j:=λj T=>by rw[<-vG,aK Zo T]
   clear vG
   have dx:∀j,j<bw+1->(j<cX\/j=cX\/j=cX+1)->j≠k+1+1->j≠k+1->ab X et j=ab X ck j:=λj T M R au=>by
    rw[ji j R,gm j Zo (λa=>by have:=mE _ a;omega),qu j au]
   refine⟨⟨.busy,none, ?_⟩,h4 _ _ (_,bS.2++[d.name]) ⟨Zo, ?_,⟨ky.set 1 (some fZ),fZ,iE,abJ, ?_, ?_, ?_, ?_⟩, ?_⟩ (by simp;omega) ?_⟩
   ·rw[ji _ Zo,gm _ Zo (λa=>by have:=mE _ a;omega)];exact g5
   ·have:(λx=>if x=d.name then some (H.agg (ph ⟨eE,d, -1, -1⟩))else wx bS.1 x)=wx (λw=>if w=d.name then some ⟨eE,d, -1, -1⟩else bS.1 w):=by
     funext x;unfold wx;by_cases a:x=d.name<;>simp[a]
    rw[this]at Ww
    exact Ww.af (by rw[ji _ Zo,gm _ Zo (λa=>by have:=mE _ a;omega)])
   ·rw[U.kf,Zg Zd];exact fk
   ·rw[U.kf,Zr rfl]
   ·rw[Yv]
    exact .inl (X0.af λj T=>ji j (by rcases WI j T with rfl|a;omega;have:=mE _ a;omega))
   ·intro j T
    rcases WI j T with rfl|a
    ·omega
    ·have:=mE _ a;omega
   ·intro j M R au
    rw[dx j Zo (.inl M) au R];exact h3.low j M R au
   ·rw[ji _ Zo,gm _ Zo (λa=>by have:=mE _ a;omega)];exact tH
 ·intro bo bw ge iK
  rw[YQ]at ge
  obtain⟨ge,fj⟩:=ge
  change q2 X aV cX (k+1) (k+1+1) (cX+2) (o7 g).1 (o7 g).2 bo bw at ge
  change (o7 g).2.length<=_ at fj
  have ajy:ab X bo k=some (.cells (U.ofList [.str g.name, .int .i64 g.at_,dk,dK,bx,fG] 0 .nil) 6 .own):=by rw[ge.low _ Zo Zo Zo];exact jK
  have l4:=e2.wide
  have fw:=ms.len
  have lm:=ms.many
  rw[l4.1]at fw lm
  refine dc (bW ajy) @fw ⟨?_⟩
  refine f8 (λm J V aY=>∃(aa:Nat),J.g 3=some (.ptr (k+1+1+1) 0)/\J.g 54=some fG/\J.g 55=some (.int .i64 (g.eqs.length:Int))/\J.g 56=some (.int .i64 (aa:Int))/\J.a8=[⟨.collected cX,[]⟩]/\aa+m=g.eqs.length
   /\q2 X aV cX (k+1) (k+1+1) (cX+2) ((g.eqs.zipIdx.take aa).foldl E7 (o7 g).1) (o7 g).2 V aY/\ab X V cX=some (.deferred (some [])))
   g.eqs.length ⟨0,bv,bv,bv,gL,rfl,Zo,ge,iK⟩ ?_
  rintro m J bX dd ⟨aa,t3,mJ,pd,ou,k0,bK,pA,GC⟩
  have jC:=pA.le
  cases m with
  |zero=>
   have aB:decide ((aa:Int)<(g.eqs.length:Int))=false:=by simp only[Zb];omega
   have ag4:ao X bX (.ptr (k+1+1+1) 0)=some (.ptr (k+1+1) 0):=by rw[c4,pA.low _ Zo Zo Zo, <-c4];exact g3
   refine gd @ou @pd @t3 @aB @ag4 ⟨?_⟩
   have D7:(g.eqs.zipIdx.take aa).foldl E7 (o7 g).1=hB g:=by
    rw[ZN (by simp;omega)];rfl
   rw[D7]at pA
   show ol X [.tmp 2] _ _ _ _ _
   simp only[qN,k0]
   refine⟨by show(y X).bj<=cX;omega,GC, ?_⟩
   show p6 _ _ _ _ _
   unfold p6
   refine c0 ⟨?_⟩
   have hV:=pA.af (aV:=bm X bX cX (some (.deferred none))) Zo Zo Zo (Zj _) (λj M R=>aK Zo Zo)
   obtain⟨c,s,db,eH,fk,hh,nH,mE⟩:=hV.Fu
   obtain⟨b,ai⟩:=nH.Iz (P:=ef k dd) (by simp[LO]at fj ⊢;omega) (λj T=>by have:=mE j T;exact⟨Zo,Zo⟩)
   refine⟨k+1+1,k+1,s,b,rfl,⟨Zo,Zo⟩,⟨Zo,Zo⟩,by rw[bW eH];exact fk,hV.map,by rw[bW eH];exact hh, ?_,Zo,λj T=> ?_⟩
   ·have:hX (LO g)=((o7 g).2.map H.str).map λv=>[v]:=by unfold hX LO;rw[YG];rfl
    rw[this];exact ai
   ·rw[hV.low j Zo Zo Zo];exact lX.af j T
  |succ m=>
   have aB:decide ((aa:Int)<(g.eqs.length:Int))=true:=by simp only[Zh];omega
   have bF:aL .add (.int .i64 (aa:Int)) (.int .i64 1)=some (.int .i64 ((aa+1:Nat):Int)):=by rw[eQ Zo Zo];rfl
   obtain⟨ar,cf⟩:∃ar,g.eqs[aa]? =some ar:=⟨_,Zf Zo⟩
   obtain⟨row,fN,xw⟩:=e2.get aa ar cf
   have xK:∀j,P j->ab X bX j=ab X h j:=λj T=>by have:=co j T;rw[pA.low j Zo Zo Zo,qz j T]
   have eG:=ms.ik aa (by rw[l4.1];omega)
   have mx:=(ms.af xK).row Zd fN
   obtain⟨qK,s6,dD,d2,ko,rfl,hN,mw,n4,pM⟩:=xw
   have xv:=lo hN.len
   have avm:=lo mw.len
   have ue:=hN.len
   have Aa:=hN.many
   rw[show(hX ar.left).length=ar.left.length from by simp[hX]]at ue Aa
   have cV:=qn E7 (o7 g).1 (I0 cf)
   rw[show(ar,aa)=(ar,aa) from rfl]at cV
   generalize WA:(g.eqs.zipIdx.take aa).foldl E7 (o7 g).1=Fv at pA cV
   refine iJ @ou @pd @mJ @aB @eG @mx ⟨?_⟩
   refine fH (iO (B:=4) (b:=dd) (W:=0) (n:=4) (c:=U.ofList [.aU, .aU, .int .i64 0, .cI] 0 .nil) (bq Zo) Zo rfl Zd Zd pM) ?_
   generalize lY:bm X _ dd _=b4
   have g5:ao X b4 (.ptr dd 0)=some qK:=by rw[<-lY,c4,bq Zo];rfl
   have eR:∀j,j<dd->ab X b4 j=ab X bX j:=λj T=>by rw[<-lY];simp(disch:=omega) only[aK]
   clear lY
   have hV:q2 X aV cX (k+1) (k+1+1) (cX+2) Fv (o7 g).2 b4 (dd+1):=pA.af Zo Zo Zo Zo (λj M R=>eR j M)
   rw[<-eR _ Zo]at GC
   refine dc @g5 @ue ⟨?_⟩
   refine f8 (λfY J V aY=>∃(i:Nat),J.g 3=some (.ptr (k+1+1+1) 0)/\J.g 54=some fG/\J.g 55=some (.int .i64 (g.eqs.length:Int))/\J.g 56=some (.int .i64 (aa:Int))/\J.a8=[⟨.collected cX,[]⟩]/\J.g 8=some (.int .i64 (aa:Int))/\J.g 62=some qK/\J.g 63=some (.int .i64 (ar.left.length:Int))/\J.g 64=some (.int .i64 (i:Int))/\i+fY=ar.left.length
    /\q2 X aV cX (k+1) (k+1+1) (cX+2) ((ar.left.zipIdx.take i).foldl (rU aa) Fv) (o7 g).2 V aY/\ab X V cX=some (.deferred (some [])))
    ar.left.length ⟨0,bn t3,bn mJ,bn pd,bn ou,k0,bv,bv,bv,gL,Zo,hV,GC⟩ ?_
   rintro fY cT ck eo ⟨i,t3,mJ,pd,ou,k0,iA,Mv,IK,Ft,aN,h3,rh⟩
   have rB:=h3.le
   cases fY with
   |zero=>
    have aB:decide ((i:Int)<(ar.left.length:Int))=false:=by simp only[Zb];omega
    refine gd @Ft @IK @ou @aB @bF ⟨?_⟩
    rw[ZN (by simp;omega)]at h3
    refine⟨m,Zo,aa+1,bn t3,bn mJ,bn pd,bv,k0,Zo, ?_,rh⟩
    rw[cV]
    exact h3
   |succ fY=>
    have aB:decide ((i:Int)<(ar.left.length:Int))=true:=by simp only[Zh];omega
    have cB:aL .add (.int .i64 (i:Int)) (.int .i64 1)=some (.int .i64 ((i+1:Nat):Int)):=by rw[eQ Zo Zo];rfl
    obtain⟨w,bL⟩:∃w,ar.left[i]? =some w:=⟨_,Zf Zo⟩
    have xL:∀j,P j->ab X ck j=ab X h j:=λj T=>by have:=co j T;rw[h3.low j Zo Zo Zo,qz j T]
    have rz:=hN.ik i (by simp[hX];omega)
    have j4:=(hN.af xL).cell i [.str w] 0 (.str w) (by unfold hX;rw[Zv,bL];rfl) rfl
    rw[Yd]at rz
    rw[Yd,ZS]at j4
    have Ae:=qn (rU aa) Fv (I0 bL)
    generalize Wz:(ar.left.zipIdx.take i).foldl (rU aa) Fv=jk at h3 Ae
    have Bh:ao X ck (.ptr (k+1+1+1) 0)=some (.ptr (k+1+1) 0):=by rw[c4,h3.low _ Zo Zo Zo, <-c4];exact g3
    obtain⟨tq,av6,at5,eH,fk,hh,nH,mE⟩:=h3.Fu
    have hx:iZ X ck 9 (.agg [.int .i64 0, .str [], .int .i64 0, .bool false, .bool false, .int .i64 0, .str [], .int .i64 0, .bool false, .int .i64 0, .int .i64 0]) (.map (k+1)) (.str w) true=some (.tuple [.agg (ph ((jk w).getD wA)), .bool (jk w).isSome]):=by
     rw[xO h3.map];unfold wx;cases jk w<;>rfl
    generalize Ce:(jk w).getD wA=eY at hx
    have uh:ph eY=[.int .i64 eY.kind, .str eY.d.name, .int .i64 eY.d.at_, .bool eY.d.ty.b, .bool eY.d.ty.s, .int .i64 eY.d.ty.w, .str eY.d.on, .int .i64 eY.d.fP, .bool eY.d.no, .int .i64 eY.eq, .int .i64 eY.left]:=rfl
    rw[uh]at hx
    refine e0 @Ft @IK @Mv @t3 @aB @rz (Za @j4 (Za @Bh (Za (bW eH) (Za @fk @hx)))) ⟨?_⟩
    generalize mT:bm X _ eo _=cC
    have g7:ab X cC eo=some (.cells (U.ofList [.int .i64 eY.kind, .str eY.d.name, .int .i64 eY.d.at_, .bool eY.d.ty.b, .bool eY.d.ty.s, .int .i64 eY.d.ty.w, .str eY.d.on, .int .i64 eY.d.fP, .bool eY.d.no, .int .i64 eY.eq, .int .i64 eY.left] 0 .nil) 11 .own):=by rw[<-mT,bq Zo];rfl
    have gl:∀j,j<eo->ab X cC j=ab X ck j:=λj T=>by rw[<-mT];simp(disch:=omega) only[aK]
    clear mT
    have jx:q2 X aV cX (k+1) (k+1+1) (cX+2) jk (o7 g).2 cC (eo+1):=h3.af Zo Zo Zo Zo (λj M R=>gl j M)
    rw[<-gl _ Zo]at rh
    cases aH:jk w with
    |none=>
     have fV:rU aa jk (w,i)=jk:=by unfold rU;simp only[aH]
     simp only[ZX]
     refine dc @Ft @cB ⟨?_⟩
     exact⟨fY,Zo,i+1,bn t3,bn mJ,bn pd,bn ou,k0,bn iA,bn Mv,bn IK,bv,Zo,by rw[Ae,fV];exact jx,rh⟩
    |some v=>
     have ans:v=eY:=by rw[aH]at Ce;exact Ce
     subst ans
     simp only[Z4]
     by_cases K4:v.eq<0
     ·have cG:decide (v.eq<0)=true:=by simp[K4]
      have fV:rU aa jk (w,i)=λx=>if x=w then some ⟨v.kind,v.d,aa,i⟩else jk x:=by unfold rU;simp only[aH,K4,ZB]
      refine hk (bW g7) @cG @iA @Ft ⟨?_⟩
      generalize tP:bm X (bm X cC eo _) eo _=dQ
      have g8:ab X dQ eo=some (.cells (U.ofList [.int .i64 v.kind, .str v.d.name, .int .i64 v.d.at_, .bool v.d.ty.b, .bool v.d.ty.s, .int .i64 v.d.ty.w, .str v.d.on, .int .i64 v.d.fP, .bool v.d.no, .int .i64 aa, .int .i64 i] 0 .nil) 11 .own):=by rw[<-tP,bq Zo];rfl
      have im:∀j,j≠eo->ab X dQ j=ab X cC j:=λj T=>by rw[<-tP,aK Zo T,aK Zo T]
      clear tP g7
      have gf:q2 X aV cX (k+1) (k+1+1) (cX+2) jk (o7 g).2 dQ (eo+1):=⟨jx.le,jx.map.af (im _ Zo),by
       obtain⟨c,s,db,cb,b1,dT,fc,lH⟩:=h3.Fu
       exact⟨c,s,db,by rw[im _ Zo,gl _ Zo];exact cb,b1,dT,fc.af (λj T=>by have:=lH j T;rw[im j Zo,gl j Zo]),λj T=>by have:=lH j T;omega⟩,
       λj M R au=>by rw[im j Zo];exact jx.low j M R au⟩
      have ag5:ao X dQ (.ptr (k+1+1+1) 0)=some (.ptr (k+1+1) 0):=by rw[c4,im _ Zo,gl _ Zo, <-c4];exact Bh
      have aq7:ab X dQ (k+1+1)=some (.cells tq 2 .own):=by rw[im _ Zo,gl _ Zo];exact eH
      refine gd @t3 @ag5 (bW aq7) @fk (bW g8) ⟨?_⟩
      obtain⟨dL,mX,akX,pF⟩:=EX (k:=eo+1+7) (show(y X).bj<=k+1 by omega) gf.map w (.agg (ph ⟨v.kind,v.d,aa,i⟩))
      refine kI mX ?_
      refine dc @Ft @cB ⟨?_⟩
      refine⟨fY,Zo,i+1,bn t3,bn mJ,bn pd,bn ou,k0,bn iA,bn Mv,bn IK,bv,Zo, ?_,by rw[pF _ Zo,im _ Zo];exact rh⟩
      rw[Ae,fV]
      refine⟨Zo, ?_, ?_,λj M R au=>by rw[pF j R];exact gf.low j M R au⟩
      ·have:(λx=>if x=w then some (H.agg (ph ⟨v.kind,v.d,aa,i⟩))else wx jk x)=wx (λx=>if x=w then some ⟨v.kind,v.d,aa,i⟩else jk x):=by
        funext x;unfold wx;by_cases a:x=w<;>simp[a]
       rw[<-this];exact akX
      ·obtain⟨c,s,db,cb,b1,dT,fc,lH⟩:=gf.Fu
       exact⟨c,s,db,by rw[pF _ Zo];exact cb,b1,dT,fc.af (λj T=>by have:=lH j T;exact pF j Zo),λj T=>by have:=lH j T;omega⟩
     ·have cG:decide (v.eq<0)=false:=by simp[K4]
      have fV:rU aa jk (w,i)=jk:=by unfold rU;simp only[aH,K4,Zx]
      refine hk (bW g7) @cG @Ft @cB ⟨?_⟩
      exact⟨fY,Zo,i+1,bn t3,bn mJ,bn pd,bn ou,k0,bn iA,bn Mv,bn IK,bv,Zo,by rw[Ae,fV];exact jx,rh⟩
end
end
end Go.Proofs.YtpfajohmofnkfaaGreatDoor

namespace Go.bh
structure iS where
 N:a1->Prop
 Dg:iu->Prop
 L:iu->Int->Prop
 bj:∀s,N s->s≠[]
 dC:Dg ⟨true,false,1⟩
 fx:L ⟨true,false,1⟩ 0
 eh:L ⟨true,false,1⟩ 1
 lt:∀t n,L t n->Dg t
structure FS(bD:iS)(x:Tok):Prop where
 name:x.kind=1->bD.N x.text
 type:x.kind=3->bD.Dg x.ty
 num:x.kind=4->0<=x.n
 lit:x.kind=5->bD.L x.ty x.n
def gH(bD:iS)(l:List Tok):Prop:=∀x∈l,FS bD x
theorem gH.ov{bD:iS}{x:Tok}{l:List Tok}(a:gH bD (x::l)):gH bD l:=λj T=>a j (Zn _ T)
theorem gH.aI{bD:iS}{x:Tok}{l:List Tok}(a:gH bD (x::l)):FS bD x:=a x (Zq ..)
def sf(B:Int):Option Nat:=if B=25 then none else if B=1\/B=2 then some 0 else if B=3\/B=4\/B=5\/B=6\/B=19\/B=20\/B=26 then some 1 else if B=23 then some 3 else some 2
def sH(B:Int):Prop:=B=2\/B=6\/B=24\/B=25
def sI(B:Int):Prop:=B=1\/B=26
structure M1(bD:iS)(E:bM):Prop where
 bN:1<=E.kind
 cg:E.kind<=26
 Jr:∀m,sf E.kind=some m->E.args.length=m
 nm:sH E.kind->bD.N E.name
 QW:¬sH E.kind->E.name=[]
 no:E.no=true->E.kind=6
 ty:sI E.kind->bD.Dg E.ty
 dA:¬sI E.kind->E.ty=dA
 apN:E.kind=1->bD.L E.ty E.n
 mc:E.kind=19\/E.kind=20->0<=E.n/\E.n<=63
 bj:E.kind≠1->E.kind≠19->E.kind≠20->E.n=0
 lg:E.kind=21->∃l r,E.args=[l,r]/\(l.kind=1\/l.kind=4/\∃x,l.args=[x]/\x.kind=1)
mutual
def fA(bD:iS):bM->Prop
 | .mk B I nm no ty n args=>M1 bD (.mk B I nm no ty n args)/\gw bD args
def gw(bD:iS):List bM->Prop
 |[]=>True
 |E::l=>fA bD E/\gw bD l
end
theorem fA.eq{bD:iS}(E:bM):fA bD E=(M1 bD E/\gw bD E.args):=by cases E;rw[fA];rfl
theorem gw.cons{bD:iS}{E:bM}{l:List bM}(a:fA bD E)(B:gw bD l):gw bD (E::l):=by rw[gw];exact⟨a,B⟩
theorem gw.nil{bD:iS}:gw bD []:=by rw[gw];trivial
theorem gw.app{bD:iS}{E:bM}(a:fA bD E):∀{l:List bM},gw bD l->gw bD (l++[E]):=by
 intro l
 induction l with
 |nil=>intro _;exact gw.cons a gw.nil
 |cons I l ah=>intro B;rw[gw]at B;exact gw.cons B.1 (ah B.2)
def df(bD:iS){α:Type}(bR:α->Prop)(x:fR α):Prop:=∀I cd,x=some (.ok (I,cd))->gH bD cd/\bR I
section
variable{bD:iS}{α er:Type}
theorem df.none{bR:α->Prop}:df bD bR none:=λ_ _ a=>by cases a
theorem df.ok{bR:α->Prop}{I:α}{l:List Tok}(a:gH bD l)(ar:bR I):df bD bR (bh.ok I l):=λf2 cd E=>by cases E;exact⟨a,ar⟩
theorem df.bad{bR:α->Prop}(I:Int):df bD bR (bh.bad I:fR α):=λf2 cd E=>by cases E
theorem df.andThen{bR:α->Prop}{qe:er->Prop}{x:fR α}{f:α->List Tok->fR er}(a:df bD bR x)(B:∀I cd,gH bD cd->bR I->df bD qe (f I cd)):df bD qe (bh.andThen x f):=by
 unfold bh.andThen
 split
 ·exact df.none
 ·exact λ_ _ E=>by cases E
 ·rename_i I l
  obtain⟨M,R⟩:=a I l rfl
  exact B I l M R
theorem m9{s:a1}{l:List Tok}(a:gH bD l):df bD (λ_=>True) (ei s l):=by
 cases l with
 |nil=>exact df.none
 |cons x l=>
  simp only[ei]
  split
  ·exact df.ok a.ov trivial
  ·exact df.bad _
theorem ur{B:Int}{l:List Tok}(a:gH bD l):df bD (λx:Tok=>FS bD x/\x.kind=B) (io B l):=by
 cases l with
 |nil=>exact df.none
 |cons x l=>
  simp only[io]
  split
  ·rename_i aH;exact df.ok a.ov ⟨a.aI,aH⟩
  ·exact df.bad _
theorem pf{s:a1}{l:List Tok}{f:Option Tok->List Tok->fR er}{bR:er->Prop}(a:gH bD l)(M:∀x cd,gH bD cd->df bD bR (f (some x) cd))(R:df bD bR (f none l)):df bD bR (hZ s l f):=by
 cases l with
 |nil=>exact df.none
 |cons x l=>
  unfold hZ lw
  by_cases aH:hA x s=true
  ·simp only[aH,ZB];exact M x l a.ov
  ·simp only[aH,Zx];exact R
theorem Jt{l:List Tok}(a:gH bD l):∀(os:List (a1×Int)) E cd,nS os l=some (E,cd)->gH bD cd/\∀x,E=some x->∃W∈os,∃I,x= .mk W.2 I [] false dA 0 []:=by
 intro os
 induction os with
 |nil=>intro E cd aW;cases aW;exact⟨a,λx ag=>by cases ag⟩
 |cons W os ah=>
  obtain⟨s,B⟩:=W
  intro E cd aW
  cases l with
  |nil=>simp[nS,lw]at aW
  |cons x l=>
   unfold nS lw at aW
   by_cases aH:hA x s=true
   ·simp only[aH,ZB]at aW
    cases aW
    exact⟨a.ov,λj T=>by cases T;exact⟨_,Zq ..,_,rfl⟩⟩
   ·simp only[aH,Zx]at aW
    obtain⟨M,R⟩:=ah E cd aW
    exact⟨M,λj T=>by obtain⟨W,bc,I,aG⟩:=R j T;exact⟨W,Zn _ bc,I,aG⟩⟩
theorem acI{B I:Int}{x j:bM}(aP:7<=B/\B<=18\/B=22)(ag:fA bD x)(T:fA bD j):fA bD (.mk B I [] false dA 0 [x,j]):=by
 rw[fA.eq]
 refine⟨⟨by simp only[bM.kind];omega,by simp only[bM.kind];omega, ?_, ?_,λ_=>rfl,(λa=>absurd a (by simp[bM.no])), ?_,λ_=>rfl, ?_, ?_,λ_ _ _=>rfl, ?_⟩,gw.cons ag (gw.cons T gw.nil)⟩
 ·intro m bi
  have t8:sf B=some m:=bi
  unfold sf at t8
  rw[Zg Zo,Zg Zo,Zg Zo,Zg Zo]at t8
  cases t8;rfl
 ·intro a;simp only[sH,bM.kind]at a;omega
 ·intro a;simp only[sI,bM.kind]at a;omega
 ·intro a;simp only[bM.kind]at a;omega
 ·intro a;simp only[bM.kind]at a;omega
 ·intro a;simp only[bM.kind]at a;omega
theorem IT{B I n:Int}{nm:a1}{no:Bool}{ty:iu}{x:bM}(aP:B=3\/B=4\/B=5\/B=6\/B=19\/B=20\/B=26)(jg:B=6->bD.N nm)(gr:B≠6->nm=[]/\no=false)(aT:B=26->bD.Dg ty)(P4:B≠26->ty=dA)(aS:B=19\/B=20->0<=n/\n<=63)(amp:B≠19->B≠20->n=0)(ag:fA bD x):fA bD (.mk B I nm no ty n [x]):=by
 rw[fA.eq]
 refine⟨⟨by simp only[bM.kind];omega,by simp only[bM.kind];omega, ?_, ?_, ?_, ?_, ?_, ?_, ?_,aS, ?_, ?_⟩,gw.cons ag gw.nil⟩
 ·intro m bi
  have t8:sf B=some m:=bi
  unfold sf at t8
  rw[Zg Zo,Zg Zo,Zr aP]at t8
  cases t8;rfl
 ·intro a;simp only[sH,bM.kind]at a;exact jg Zo
 ·intro a;simp only[sH,bM.kind]at a;exact(gr Zo).1
 ·intro a
  by_cases cr:B=6
  ·exact cr
  ·have cv:no=true:=a
   rw[(gr cr).2]at cv;cases cv
 ·intro a;simp only[sI,bM.kind]at a;exact aT Zo
 ·intro a;simp only[sI,bM.kind]at a;exact P4 Zo
 ·intro a;simp only[bM.kind]at a;omega
 ·intro M R au;exact amp R au
 ·intro a;simp only[bM.kind]at a;omega
theorem acH{I n:Int}{ty:iu}(a:bD.L ty n):fA bD (.mk 1 I [] false ty n []):=by
 rw[fA.eq]
 exact⟨⟨by simp[bM.kind],by simp[bM.kind],λm bi=>by simp[sf,bM.kind]at bi;simp[bM.args, <-bi],λa=>by simp[sH,bM.kind]at a,λ_=>rfl,(λa=>absurd a (by simp[bM.no])),λ_=>bD.lt _ _ a,λa=>by simp[sI,bM.kind]at a,λ_=>a,λa=>by simp[bM.kind]at a,λa=>by simp[bM.kind]at a,λa=>by simp[bM.kind]at a⟩,gw.nil⟩
theorem atI{I:Int}{nm:a1}(a:bD.N nm):fA bD (.mk 2 I nm false dA 0 []):=by
 rw[fA.eq]
 exact⟨⟨by simp[bM.kind],by simp[bM.kind],λm bi=>by simp[sf,bM.kind]at bi;simp[bM.args, <-bi],λ_=>a,λa=>by simp[sH,bM.kind]at a,(λa=>absurd a (by simp[bM.no])),λa=>by simp[sI,bM.kind]at a,λ_=>rfl,λa=>by simp[bM.kind]at a,λa=>by simp[bM.kind]at a,λ_ _ _=>rfl,λa=>by simp[bM.kind]at a⟩,gw.nil⟩
theorem atE{I:Int}{nm:a1}{cm:List bM}(a:bD.N nm)(B:gw bD cm):fA bD (.mk 25 I nm false dA 0 cm):=by
 rw[fA.eq]
 exact⟨⟨by simp[bM.kind],by simp[bM.kind],λm bi=>by simp[sf,bM.kind]at bi,λ_=>a,λa=>by simp[sH,bM.kind]at a,(λa=>absurd a (by simp[bM.no])),λa=>by simp[sI,bM.kind]at a,λ_=>rfl,λa=>by simp[bM.kind]at a,λa=>by simp[bM.kind]at a,λ_ _ _=>rfl,λa=>by simp[bM.kind]at a⟩,B⟩
theorem atG{I:Int}{x j bl:bM}(ag:fA bD x)(T:fA bD j)(cj:fA bD bl):fA bD (.mk 23 I [] false dA 0 [x,j,bl]):=by
 rw[fA.eq]
 exact⟨⟨by simp[bM.kind],by simp[bM.kind],λm bi=>by simp[sf,bM.kind]at bi;simp[bM.args, <-bi],λa=>by simp[sH,bM.kind]at a,λ_=>rfl,(λa=>absurd a (by simp[bM.no])),λa=>by simp[sI,bM.kind]at a,λ_=>rfl,λa=>by simp[bM.kind]at a,λa=>by simp[bM.kind]at a,λ_ _ _=>rfl,λa=>by simp[bM.kind]at a⟩,gw.cons ag (gw.cons T (gw.cons cj gw.nil))⟩
theorem atH{I:Int}{nm:a1}{x j:bM}(a:bD.N nm)(ag:fA bD x)(T:fA bD j):fA bD (.mk 24 I nm false dA 0 [x,j]):=by
 rw[fA.eq]
 exact⟨⟨by simp[bM.kind],by simp[bM.kind],λm bi=>by simp[sf,bM.kind]at bi;simp[bM.args, <-bi],λ_=>a,λa=>by simp[sH,bM.kind]at a,(λa=>absurd a (by simp[bM.no])),λa=>by simp[sI,bM.kind]at a,λ_=>rfl,λa=>by simp[bM.kind]at a,λa=>by simp[bM.kind]at a,λ_ _ _=>rfl,λa=>by simp[bM.kind]at a⟩,gw.cons ag (gw.cons T gw.nil)⟩
theorem atF{I:Int}{x j:bM}(a:sZ x=some true)(ag:fA bD x)(T:fA bD j):fA bD (.mk 21 I [] false dA 0 [x,j]):=by
 rw[fA.eq]
 refine⟨⟨by simp[bM.kind],by simp[bM.kind],λm bi=>by simp[sf,bM.kind]at bi;simp[bM.args, <-bi],λa=>by simp[sH,bM.kind]at a,λ_=>rfl,(λa=>absurd a (by simp[bM.no])),λa=>by simp[sI,bM.kind]at a,λ_=>rfl,λa=>by simp[bM.kind]at a,λa=>by simp[bM.kind]at a,λ_ _ _=>rfl,λ_=>⟨x,j,rfl, ?_⟩⟩,gw.cons ag (gw.cons T gw.nil)⟩
 unfold sZ at a
 split at a
 ·rename_i M;exact .inl M
 ·split at a
  ·rename_i M aM
   refine .inr ⟨aM, ?_⟩
   have pS:=ag
   rw[fA.eq]at pS
   have aE:=pS.1.Jr 1 (by rw[aM];rfl)
   cases aG:x.args with
   |nil=>rw[aG]at aE;cases aE
   |cons b l=>
    rw[aG]at aE a
    cases l with
    |nil=>exact⟨b,rfl,by simpa using a⟩
    |cons c l=>simp at aE
  ·cases a
theorem aqg:∀(B:Nat) (W:a1×Int),W∈aq B->7<=W.2/\W.2<=18:=by
 intro B W a
 match B with
 |0=>simp[aq]at a;rcases a with rfl|rfl<;>decide
 |1=>simp[aq]at a;subst a;decide
 |2=>simp[aq]at a;rcases a with rfl|rfl|rfl|rfl|rfl|rfl<;>decide
 |3=>simp[aq]at a;rcases a with rfl|rfl<;>decide
 |4=>simp[aq]at a;subst a;decide
 |n+5=>simp[aq]at a
theorem aqM(W:a1×Int)(a:W∈xX):W.2=3\/W.2=4\/W.2=5:=by
 simp[xX]at a;rcases a with rfl|rfl|rfl<;>simp
end
end Go.bh

namespace Go.bh
structure acS(bD:iS)(n:Nat):Prop where
 level:∀B l,gH bD l->df bD (fA bD) (level n B l)
 oc:∀B E l,gH bD l->fA bD E->df bD (fA bD) (oc n B E l)
 shift:∀l,gH bD l->df bD (fA bD) (shift n l)
 oq:∀E l,gH bD l->fA bD E->df bD (fA bD) (oq n E l)
 ot:∀B x E l,B=19\/B=20->gH bD l->fA bD E->df bD (fA bD) (ot n B x E l)
 s5:∀l,gH bD l->df bD (fA bD) (wn n l)
 mK:∀E l,gH bD l->fA bD E->df bD (fA bD) (mK n E l)
 part:∀l,gH bD l->df bD (fA bD) (part n l)
 list:∀l,gH bD l->df bD (gw bD) (list n l)
 od:∀cm l,gH bD l->gw bD cm->df bD (gw bD) (od n cm l)
 lh:∀l,gH bD l->df bD (fA bD) (lh n l)
 arrow:∀l,gH bD l->df bD (fA bD) (arrow n l)
theorem agG(bD:iS):∀n,acS bD n:=by
 intro n
 induction n with
 |zero=>constructor<;>intros<;>exact df.none
 |succ n ah=>
  constructor
  case level=>
   intro B l aE
   rw[level]
   split
   ·exact ah.shift l aE
   ·exact(ah.level (B+1) l aE).andThen λE cd M R=>ah.oc B E cd M R
  case oc=>
   intro B E l aE aW
   rw[oc]
   split
   ·exact df.none
   ·rename_i cd ai
    exact df.ok (Jt aE _ _ _ ai).1 aW
   ·rename_i x cd ai
    obtain⟨M,R⟩:=Jt aE _ _ _ ai
    obtain⟨W,bc,I,rfl⟩:=R _ rfl
    have aP:=aqg _ _ bc
    refine(ah.level (B+1) cd M).andThen λr c5 bN cg=> ?_
    have aT:fA bD (two (.mk W.2 I [] false dA 0 []) E r):=acI (B:=W.2) (.inl aP) aW cg
    split
    ·exact df.ok bN aT
    ·exact ah.oc B _ c5 bN aT
  case shift=>
   intro l aE
   rw[shift]
   exact(ah.s5 l aE).andThen λE cd M R=>ah.oq E cd M R
  case oq=>
   intro E l aE aW
   rw[oq]
   refine pf aE (λx cd M=>ah.ot 19 x E cd (.inl rfl) M aW) ?_
   exact pf aE (λx cd M=>ah.ot 20 x E cd (.inr rfl) M aW) (df.ok aE aW)
  case ot=>
   intro B x E l aP aE aW
   rw[ot]
   refine(ur aE).andThen λm cd M R=> ?_
   split
   ·exact df.bad _
   ·rename_i auk
    have ci:=R.1.num R.2
    exact ah.oq _ cd M (IT Zo (λa=>Zo) (λ_=>⟨rfl,rfl⟩) (λa=>Zo) (λ_=>rfl) (λ_=>⟨ci,Zo⟩) (λM R=>Zo) aW)
  case s5=>
   intro l aE
   rw[wn]
   split
   ·exact df.none
   ·rename_i x cd ai
    obtain⟨M,R⟩:=Jt aE _ _ _ ai
    obtain⟨W,bc,I,rfl⟩:=R _ rfl
    have aP:=aqM _ bc
    refine(ah.s5 cd M).andThen λE c5 bN cg=>df.ok bN ?_
    exact IT (B:=W.2) Zo (λa=>Zo) (λ_=>⟨rfl,rfl⟩) (λa=>Zo) (λ_=>rfl) (λa=>Zo) (λ_ _=>rfl) cg
   ·rename_i cd ai
    exact(ah.part cd (Jt aE _ _ _ ai).1).andThen λE c5 bN cg=>ah.mK E c5 bN cg
  case mK=>
   intro E l aE aW
   rw[mK]
   refine pf aE (λx cd M=> ?_) (df.ok aE aW)
   refine pf M (λj c5 bN=> ?_) ?_
   ·refine(ur bN).andThen λm eN ee fz=> ?_
    exact ah.mK _ eN ee (IT Zo (λ_=>fz.1.name fz.2) (λa=>absurd rfl a) (λa=>Zo) (λ_=>rfl) (λa=>Zo) (λ_ _=>rfl) aW)
   ·refine(ur M).andThen λm eN ee fz=> ?_
    exact ah.mK _ eN ee (IT Zo (λ_=>fz.1.name fz.2) (λa=>absurd rfl a) (λa=>Zo) (λ_=>rfl) (λa=>Zo) (λ_ _=>rfl) aW)
  case list=>
   intro l aE
   rw[list]
   refine pf aE (λx cd M=>df.ok M gw.nil) ?_
   exact(ah.arrow l aE).andThen λE c5 bN cg=>ah.od _ c5 bN (gw.cons cg gw.nil)
  case od=>
   intro cm l aE aG
   rw[od]
   refine pf aE (λx cd M=> ?_) ?_
   ·exact(ah.arrow cd M).andThen λE c5 bN cg=>ah.od _ c5 bN (gw.app cg aG)
   ·exact(m9 aE).andThen λ_ cd M _=>df.ok M aG
  case lh=>
   intro l aE
   rw[lh]
   refine(ah.level 0 l aE).andThen λE c5 bN cg=> ?_
   refine pf bN (λx cd M=> ?_) (df.ok bN cg)
   simp only[]
   split
   ·exact df.none
   ·rename_i y3
    exact(ah.lh cd M).andThen λr eN ee fz=>df.ok ee (atF y3 cg fz)
   ·exact df.bad _
  case arrow=>
   intro l aE
   rw[arrow]
   refine(ah.lh l aE).andThen λE c5 bN cg=> ?_
   refine pf bN (λx cd M=> ?_) (df.ok bN cg)
   exact(ah.arrow cd M).andThen λr eN ee fz=>df.ok ee (acI (.inr rfl) cg fz)
  case part=>
   intro l aE
   cases l with
   |nil=>rw[part];exact df.none
   |cons x l=>
   have ag:=aE.aI
   have gY:=aE.ov
   rw[part]
   by_cases ky:x.kind=5
   ·rw[Zr ky]
    exact df.ok gY (acH (ag.lit ky))
   rw[Zg ky]
   split
   ·refine df.ok gY (acH ?_)
    split
    ·exact bD.eh
    ·exact bD.fx
   by_cases dD:x.kind=1
   ·rw[Zr dD]
    refine pf gY (λj c5 M=> ?_) (df.ok gY (atI (ag.name dD)))
    exact(ah.list c5 M).andThen λcm eN ee fz=>df.ok ee (atE (ag.name dD) fz)
   rw[Zg dD]
   by_cases gQ:x.kind=3
   ·rw[Zr gQ]
    refine(m9 gY).andThen λ_ c5 M _=> ?_
    refine(ah.arrow c5 M).andThen λE eN ee fz=> ?_
    refine(m9 ee).andThen λ_ gE fe _=> ?_
    exact df.ok fe (IT Zo (λa=>Zo) (λ_=>⟨rfl,rfl⟩) (λ_=>ag.type gQ) (λa=>absurd rfl a) (λa=>Zo) (λ_ _=>rfl) fz)
   rw[Zg gQ]
   split
   ·refine(ah.arrow l gY).andThen λE eN ee fz=> ?_
    refine(m9 ee).andThen λ_ gE fe _=> ?_
    exact df.ok fe fz
   split
   ·refine(ah.arrow l gY).andThen λE eN ee fz=> ?_
    refine(m9 ee).andThen λ_ gE fe _=> ?_
    refine(ah.arrow gE fe).andThen λcB gs cb b1=> ?_
    refine(m9 cb).andThen λ_ kX eH _=> ?_
    refine(ah.arrow kX eH).andThen λfh lF iN kZ=> ?_
    exact df.ok iN (atG fz b1 kZ)
   split
   ·refine(ur gY).andThen λc c5 M ay=> ?_
    refine(ah.part c5 M).andThen λE eN ee fz=> ?_
    refine(ah.part eN ee).andThen λcB gE fe hg=> ?_
    exact df.ok fe (atH (ay.1.name ay.2) fz hg)
   ·exact df.bad _
structure qZ(bD:iS)(d:el):Prop where
 name:bD.N d.name
 type:bD.Dg d.ty
 on:d.on≠[]->bD.N d.on
 no:d.on=[]->d.no=false
structure FC(bD:iS)(ar:fg):Prop where
 left:∀s∈ar.left,bD.N s
 some:ar.left≠[]
 right:fA bD ar.right
structure vi(bD:iS)(g:Node):Prop where
 name:bD.N g.name
 eM:∀d∈g.eM,qZ bD d
 out:∀d∈g.out,qZ bD d
 loc:∀d∈g.loc,qZ bD d
 some:g.out≠[]
 eqs:∀ar∈g.eqs,FC bD ar
def wH(bD:iS)(ch:List Tok):Prop:=∀x∈ch,bD.N x.text
theorem wH.app{bD:iS}{x:Tok}{ch:List Tok}(a:wH bD ch)(ag:bD.N x.text):wH bD (ch++[x]):=by
 intro j T
 rcases Zw.1 T with T|T
 ·exact a j T
 ·simp at T;subst T;exact ag
theorem aaU{bD:iS}:∀(n:Nat) (cm l:List Tok),gH bD l->wH bD cm->df bD (λch=>wH bD ch/\ch≠[]) (qG n cm l):=by
 intro n
 induction n with
 |zero=>intro cm l _ _;rw[qG];exact df.none
 |succ n ah=>
  intro cm l aE aG
  rw[qG]
  refine(ur aE).andThen λx cd M ag=> ?_
  have aS:=aG.app (ag.1.name ag.2)
  refine pf M (λj c5 R=>ah _ c5 R aS) (df.ok M ⟨aS,Zs⟩)
theorem U7{bD:iS}{w:Option Tok}{l:List Tok}(aE:gH bD l):df bD (λr:a1×Int×Bool=>(r.1≠[]->bD.N r.1)/\(r.1=[]->r.2.2=false)) (yC w l):=by
 unfold yC
 split
 ·exact df.ok aE ⟨λa=>absurd rfl a,λ_=>rfl⟩
 ·refine pf aE (λj c5 R=> ?_) ?_
  ·exact(ur R).andThen λx cd M ag=>df.ok M ⟨λ_=>ag.1.name ag.2,λa=>absurd a (bD.bj _ (ag.1.name ag.2))⟩
  ·exact(ur aE).andThen λx cd M ag=>df.ok M ⟨λ_=>ag.1.name ag.2,λa=>absurd a (bD.bj _ (ag.1.name ag.2))⟩
theorem gH.drop{bD:iS}{l:List Tok}(a:gH bD l)(n:Nat):gH bD (l.drop n):=λx ag=>a x (zd ag)
theorem U6{bD:iS}{loc:Bool}{B:List el->List Tok->fR (List el)}{bR:List el->Prop}{ds:List el}{l:List Tok}(aE:gH bD l)(cf:bR ds)(aP:∀cd,gH bD cd->df bD bR (B ds cd)):df bD bR (wV loc B ds l):=by
 unfold wV
 split
 ·exact df.none
 ·split
  ·split
   ·split
    ·exact df.none
    ·split
     ·exact df.ok aE cf
     ·exact aP _ (aE.drop 1)
   ·exact aP _ (aE.drop 1)
  ·exact df.ok aE cf
theorem NP{bD:iS}{loc:Bool}:∀(n:Nat) (ds:List el) (l:List Tok),gH bD l->(∀d∈ds,qZ bD d)->df bD (λds=>(∀d∈ds,qZ bD d)/\ds≠[]) (iG n loc ds l):=by
 intro n
 induction n with
 |zero=>intro ds l _ _;rw[iG];exact df.none
 |succ n ah=>
  intro ds l aE aI
  rw[iG]
  refine(aaU n [] l aE (λ_ a=>by cases a)).andThen λch cd M ag=> ?_
  unfold Bp
  refine(m9 M).andThen λ_ c5 R _=> ?_
  refine(ur R).andThen λt eN au aT=> ?_
  have pD:∀r:a1×Int×Bool,((r.1≠[]->bD.N r.1)/\(r.1=[]->r.2.2=false))->∀d∈ds++ch.map (oO t.ty r.1 r.2.1 r.2.2),qZ bD d:=by
   intro r S d xn
   rcases Zw.1 xn with a|a
   ·exact aI d a
   ·obtain⟨x,Qe,rfl⟩:=ZD.1 a
    exact⟨ag.1 x Qe,aT.1.type aT.2,S.1,S.2⟩
  refine pf au (λw gE aM=> ?_) ?_
  ·refine(U7 aM).andThen λr gs bA S=> ?_
   exact U6 bA ⟨pD r S,by simp[ag.2]⟩ (λcd a=>ah _ cd a (pD r S))
  ·refine(U7 au).andThen λr gs bA S=> ?_
   exact U6 bA ⟨pD r S,by simp[ag.2]⟩ (λcd a=>ah _ cd a (pD r S))
theorem aiM{bD:iS}(n:Nat){l:List Tok}(aE:gH bD l):df bD (FC bD) (tz n l):=by
 have B8:∀(ch:List Tok) (l:List Tok),gH bD l->wH bD ch/\ch≠[]->df bD (FC bD) (andThen (ei [61] l) λE l=>andThen (arrow n l) λr l=>andThen (ei [59] l) λ_ l=>ok ⟨ch.map Tok.text,ch.map Tok.at_,E.at_,r⟩ l):=by
  intro ch l aE ag
  refine(m9 aE).andThen λE c5 R _=> ?_
  refine((agG bD n).arrow c5 R).andThen λr eN au S=> ?_
  refine(m9 au).andThen λ_ gE aM _=>df.ok aM ⟨?_,by simp[ag.2],S⟩
  intro s aH
  obtain⟨x,Qe,rfl⟩:=ZD.1 aH
  exact ag.1 x Qe
 have mv:∀x:Tok,FS bD x/\x.kind=1->wH bD [x]:=λx ag j T=>by simp at T;subst T;exact ag.1.name ag.2
 unfold tz
 refine pf aE (λj c5 R=> ?_) ?_
 ·refine df.andThen (bR:=λch=>wH bD ch/\ch≠[]) ?_ B8
  refine(ur R).andThen λx eN au ag=> ?_
  refine(m9 au).andThen λ_ gE aM _=> ?_
  refine(aaU n [x] gE aM (mv x ag)).andThen λch gs bA Ag=> ?_
  exact(m9 bA).andThen λ_ kX cr _=>df.ok cr Ag
 ·refine df.andThen (bR:=λch=>wH bD ch/\ch≠[]) ?_ B8
  exact(ur aE).andThen λx eN au ag=>df.ok au ⟨mv x ag,Zs⟩
theorem aiR{bD:iS}:∀(n:Nat) (de:List fg) (l:List Tok),gH bD l->(∀ar∈de,FC bD ar)->df bD (λde=>∀ar∈de,FC bD ar) (lf n de l):=by
 intro n
 induction n with
 |zero=>intro de l _ _;rw[lf];exact df.none
 |succ n ah=>
  intro de l aE cf
  rw[lf]
  refine pf aE (λj c5 R=>df.ok R cf) ?_
  refine(aiM n aE).andThen λar c5 R amO=>ah _ c5 R ?_
  intro Fb a
  rcases Zw.1 a with a|a
  ·exact cf Fb a
  ·simp at a;subst a;exact amO
theorem apR{bD:iS}(n:Nat){l:List Tok}(aE:gH bD l):df bD (vi bD) (node n l):=by
 unfold node
 refine(m9 aE).andThen λ_ l M _=> ?_
 refine(ur M).andThen λx l R ag=> ?_
 refine(m9 R).andThen λ_ l au _=> ?_
 have B8:∀(eM:List el) (l:List Tok),gH bD l->(∀d∈eM,qZ bD d)->df bD (vi bD) (andThen (ei [114,101,116,117,114,110,115] l) λ_ l=>andThen (ei [40] l) λ_ l=>andThen (iG n false [] l) λout l=>andThen (ei [41] l) λ_ l=>
  hZ [118,97,114] l λj l=>andThen (match j with
   |some _=>andThen (iG n true [] l) λds l=>andThen (ei [59] l) λ_ l=>ok ds l
   |none=>ok [] l) λloc l=>
  andThen (ei [108,101,116] l) λ_ l=>andThen (lf n [] l) λde l=>ok ⟨x.text,x.at_,eM,out,loc,de⟩ l):=by
  intro eM l aE aN
  refine(m9 aE).andThen λ_ l M _=> ?_
  refine(m9 M).andThen λ_ l R _=> ?_
  refine(NP n [] l R (λ_ a=>by cases a)).andThen λout l au bc=> ?_
  refine(m9 au).andThen λ_ l aM _=> ?_
  have Xo:∀(loc:List el) (l:List Tok),gH bD l->(∀d∈loc,qZ bD d)->df bD (vi bD) (andThen (ei [108,101,116] l) λ_ l=>andThen (lf n [] l) λde l=>ok ⟨x.text,x.at_,eM,out,loc,de⟩ l):=by
   intro loc l aE ama
   refine(m9 aE).andThen λ_ l bA _=> ?_
   exact(aiR n [] l bA (λ_ a=>by cases a)).andThen λde l cr amP=>df.ok cr ⟨ag.1.name ag.2,aN,bc.1,ama,bc.2,amP⟩
  refine pf aM (λj c5 bA=> ?_) ?_
  ·refine df.andThen (bR:=λds=>∀d∈ds,qZ bD d) ?_ Xo
   refine(NP n [] c5 bA (λ_ a=>by cases a)).andThen λds l cr Pa=> ?_
   exact(m9 cr).andThen λ_ l dM _=>df.ok dM Pa.1
  ·exact df.andThen (bR:=λds=>∀d∈ds,qZ bD d) (df.ok aM (λ_ a=>by cases a)) Xo
 refine pf au (λj c5 aM=> ?_) ?_
 ·exact df.andThen (bR:=λds=>∀d∈ds,qZ bD d) (df.ok aM (λ_ a=>by cases a)) B8
 ·refine df.andThen (bR:=λds=>∀d∈ds,qZ bD d) ?_ B8
  refine(NP n [] _ au (λ_ a=>by cases a)).andThen λds l cr Pa=> ?_
  exact(m9 cr).andThen λ_ l dM _=>df.ok dM Pa.1
theorem apU{bD:iS}:∀(n:Nat) (aC:List Node) (l:List Tok),gH bD l->(∀g∈aC,vi bD g)->df bD (λaC=>(∀g∈aC,vi bD g)/\aC≠[]) (nodes n aC l):=by
 intro n
 induction n with
 |zero=>intro aC l _ _;rw[nodes];exact df.none
 |succ n ah=>
  intro aC l aE bV
  rw[nodes]
  refine(apR n aE).andThen λg c5 R alQ=> ?_
  have qt:∀pw∈aC++[g],vi bD pw:=by
   intro pw a
   rcases Zw.1 a with a|a
   ·exact bV pw a
   ·simp at a;subst a;exact alQ
  split
  ·exact df.none
  ·split
   ·exact df.ok R ⟨qt,Zs⟩
   ·exact ah _ _ R qt
end Go.bh

namespace Go.Proofs.YtpfajohmofnkfaaGreatDoor
open Go.al Go.bh
noncomputable section
structure C9(s:a1):Prop where
 ne:s≠[]
 len:s.length<=32
 ag9:∀c,s.head?=some c->pT c=true
 all:∀c∈s,iy c=true
 res:s∉uK
 ty:kO s=none
def M0(t:iu)(n:Int):Prop:=kj t=true/\uc t n=true/\0<=n/\n<18446744073709551616
theorem amu:uc ⟨true,false,1⟩ 0=true:=by decide+kernel
theorem amv:uc ⟨true,false,1⟩ 1=true:=by decide+kernel
def q4:iS:=⟨C9,λt=>kj t=true,M0,λ_ a=>a.ne,rfl,⟨rfl,amu,Zo,Zo⟩,⟨rfl,amv,Zo,Zo⟩,λ_ _ a=>a.1⟩
theorem as1{
 s:a1}{i:Nat}{x:Tok}(a:ww s i=some x):FS q4 (lz x i):=by
 unfold ww at a
 cases ay:s[i]? with
 |none=>rw[ay]at a;cases a
 |some c=>
  rw[ay]at a
  simp only[]at a
  obtain⟨ag,T⟩:=Zc.1 ay
  have aI:s.drop i=c::s.drop (i+1):=by rw[ZA ag,T]
  split at a
  ·unfold CA at a
   simp only[]at a
   split at a
   ·cases a
   ·have cR:=abB ((s.drop i).takeWhile ij)
    split at a
    ·cases a
     exact⟨λa=>by simp[lz]at a,λa=>by simp[lz]at a,λ_=>by simp only[lz];omega,λa=>by simp[lz]at a⟩
    ·split at a
     ·rename_i t aT
      split at a
      ·rename_i gB
       cases a
       simp only[Zk]at gB
       exact⟨λa=>by simp[lz]at a,λa=>by simp[lz]at a,λa=>by simp[lz]at a,λ_=>⟨R3 aT,gB.2,by simp only[lz];omega,by simp only[lz];omega⟩⟩
      ·cases a
     ·cases a
  ·split at a
   ·rename_i ai
    split at a
    ·rename_i aE
     cases a
     have bL:(s.drop i).takeWhile iy=c::(s.drop (i+1)).takeWhile iy:=by
      rw[aI,YB]
      have:iy c=true:=by simp[iy,ai]
      simp[this]
     refine⟨λa=> ?_,λa=> ?_,λa=> ?_,λa=> ?_⟩
     ·simp only[lz,s1]at a ⊢
      split at a
      ·cases a
      ·rename_i aS
       split at a
       ·cases a
       ·rename_i S
        have gY:((s.drop i).takeWhile iy).length<=32:=by simpa[s1]using aE
        refine⟨by rw[bL];simp,gY, ?_,acf iy _,S,by simpa using aS⟩
        intro gx cv
        rw[bL]at cv
        cases cv
        exact ai
     ·simp only[lz,s1]at a ⊢
      split at a
      ·rename_i aS
       cases aT:kO ((s.drop i).takeWhile iy)with
       |none=>rw[aT]at aS;cases aS
       |some t=>exact R3 aT
      ·split at a<;>cases a
     ·simp only[lz,s1]at a
      split at a
      ·cases a
      ·split at a<;>cases a
     ·simp only[lz,s1]at a
      split at a
      ·cases a
      ·split at a<;>cases a
    ·cases a
   ·cases aH:uN s i with
    |none=>rw[aH]at a;cases a
    |some p=>
     rw[aH]at a
     cases a
     exact⟨λa=>by simp[lz,CT]at a,λa=>by simp[lz,CT]at a,λa=>by simp[lz,CT]at a,λa=>by simp[lz,CT]at a⟩
theorem as3{s:a1}:∀(n:Nat) (aR:List Tok) (i:Nat) (pg:List Tok),gH q4 aR->r0 s n aR i=some (.ok pg)->gH q4 pg:=by
 intro n
 induction n with
 |zero=>intro aR i pg _ a;cases a
 |succ n ah=>
  intro aR i pg aT a
  rw[r0]at a
  split at a
  ·split at a
   ·cases a
   ·rename_i x ag
    refine ah _ _ _ ?_ a
    intro j T
    rcases Zw.1 T with T|T
    ·exact aT j T
    ·simp at T;subst T;exact as1 ag
  ·cases a
   intro j T
   rcases Zw.1 T with T|T
   ·exact aT j T
   ·simp at T;subst T;exact⟨λa=>by simp at a,λa=>by simp at a,λa=>by simp at a,λa=>by simp at a⟩
theorem aqA{s:a1}{aC:List Go.bh.Node}(a:AI s= .ok aC):(∀g∈aC,vi q4 g)/\aC≠[]/\rM aC=none:=by
 unfold AI at a
 split at a
 ·rename_i r S
  subst a
  unfold AJ at S
  split at S
  ·cases S
  ·cases S
  ·rename_i aR aT
   have P7:=as3 _ _ _ _ (λ_ a=>by cases a) aT
   split at S
   ·cases S
   ·cases S
   ·rename_i iL l aS
    obtain⟨M,R⟩:=apU (bD:=q4) _ _ _ P7 (λ_ a=>by cases a) _ _ aS
    split at S
    ·cases S
    ·rename_i aE
     cases S
     exact⟨R.1,R.2,aE⟩
 ·cases a
end
end Go.Proofs.YtpfajohmofnkfaaGreatDoor

namespace Go.Proofs.YtpfajohmofnkfaaGreatDoor
open Go.al Go.bh
noncomputable section
mutual
def CL:bM->List bM
 | .mk B I nm no t n args=> .mk B I nm no t n args::Iv args
def Iv:List bM->List bM
 |[]=>[]
 |E::l=>CL E++Iv l
end
mutual
theorem Sa{is:Type}(step:is->bM->is×Bool)(a:∀s E,(step s E).2=true):∀(E:bM) (s:is),uV step s E=(CL E).foldl (λs E=>(step s E).1) s
 | .mk B I nm no t n args,s=>by
   rw[uV,Zr (a _ _),CL,ZL]
   exact acC step a args _
theorem acC{is:Type}(step:is->bM->is×Bool)(a:∀s E,(step s E).2=true):∀(l:List bM) (s:is),wB step s l=(Iv l).foldl (λs E=>(step s E).1) s
 |[],s=>by rw[wB,Iv];rfl
 |E::l,s=>by
  rw[wB,Iv,List.foldl_append,Sa step a E s]
  exact acC step a l _
end
def qB(ar:fg):List (a1×Int):=ar.left.zipIdx.map λx=>(x.1,(ar.cM[x.2]?).getD 0)
def m2(t:a1->Option f1)(s:(a1->Option Int)×(Int×Int))(x:a1×Int):(a1->Option Int)×(Int×Int):=(λw=>if w=x.1 then some ((s.1 x.1).getD 0+1)else s.1 w,H5 t s.1 s.2 x.1 x.2)
def ls(t:a1->Option f1)(aC:List Go.bh.Node)(B:Nat)(s:(a1->Option Int)×(Int×Int))(ar:fg):(a1->Option Int)×(Int×Int):=
 (((qB ar).foldl (m2 t) s).1,Mg t aC B ((qB ar).foldl (m2 t) s).2 ar.right)
def qS(Z:a1->Option Int)(f:Int×Int)(x:Int×el):Int×Int:=if x.1≠1/\(Z x.2.name).getD 0=0 then lS f 37 x.2.at_ else f
def rP(aC:List Go.bh.Node)(B:Nat)(g:Go.bh.Node):Int×Int:=if (pt aC g.name).getD 0<B then lS (0,0) 24 g.at_ else(0,0)
def o5(aC:List Go.bh.Node)(B:Nat)(g:Go.bh.Node):Int×Int:=
 (eC g).foldl (qS (g.eqs.foldl (ls (hB g) aC B) (λ_=>none,sq (hB g) g (rP aC B g))).1) (g.eqs.foldl (ls (hB g) aC B) (λ_=>none,sq (hB g) g (rP aC B g))).2
def Bk(aC:List Go.bh.Node):Nat->List Go.bh.Node->Int×Int
 |_,[]=>(0,0)
 |B,g::l=>if (o5 aC B g).1≠0 then o5 aC B g else Bk aC (B+1) l
def Bl(aC:List Go.bh.Node):Int×Int:=Bk aC 0 aC
theorem yI(f:Int×Int){c:Int}(I:Int)(ay:c≠0):(lS f c I).1≠0:=by
 unfold lS
 split
 ·exact ay
 ·rename_i a;exact a
theorem VP{α:Type}(bad:α->Prop)[DecidablePred bad](c I:α->Int)(ay:∀x,c x≠0):∀(l:List α) (f:Int×Int),(l.foldl (λf x=>if bad x then lS f (c x) (I x)else f) f).1=0↔f.1=0/\∀x∈l,¬bad x:=by
 intro l
 induction l with
 |nil=>intro f;simp
 |cons x l ah=>
  intro f
  rw[ZL,ah]
  by_cases ai:bad x
  ·have:=yI f (I x) (ay x)
   simp[ai,this]
  ·simp[ai]
def QT(g:Go.bh.Node):List a1:=(eC g).map λx=>x.2.name
theorem ain{g:Go.bh.Node}{x:Int×el}(a:x∈eC g):x.1=1/\x.2∈g.eM\/x.1=2/\x.2∈g.out\/x.1=3/\x.2∈g.loc:=by
 simp only[eC,Zw,ZD]at a
 rcases a with ⟨d,a,rfl⟩|⟨d,a,rfl⟩|⟨d,a,rfl⟩<;>simp[a]
theorem aig:∀(l:List (Int×el)) (s:a1->Option Int) (f:Int×Int),(∀x∈l,0<x.1)->((l.foldl ld (s,f)).2.1=0↔f.1=0/\(l.map λx=>x.2.name).Nodup/\∀x∈l,¬0<(s x.2.name).getD 0):=by
 intro l
 induction l with
 |nil=>intro s f _;simp
 |cons x l ah=>
  intro s f ax
  rw[ZL]
  have ag:=ax x (Zq ..)
  rw[show ld (s,f) x=((ld (s,f) x).1,(ld (s,f) x).2) from rfl,ah _ _ (λj T=>ax j (Zn _ T))]
  simp only[ld,Zy,YO,Zl,ZD]
  constructor
  ·rintro⟨M,R,au⟩
   by_cases ai:0<(s x.2.name).getD 0
   ·rw[Zr ai]at M
    exact absurd M (yI f _ Zd)
   ·rw[Zg ai]at M
    refine⟨M,⟨?_,R⟩, ?_⟩
    ·rintro⟨j,T,aW⟩
     have:=au j T
     rw[Zr aW]at this
     exact this (by simpa using ag)
    ·rintro j (rfl|T)
     ·exact ai
     ·have:=au j T
      split at this
      ·exact absurd ag (by simpa using this)
      ·exact this
  ·rintro⟨M,⟨R,au⟩,aM⟩
   have ai:¬0<(s x.2.name).getD 0:=aM x (.inl rfl)
   refine⟨by rw[Zg ai];exact M,au,λj T=> ?_⟩
   rw[Zg (λE=>R ⟨j,T,E⟩)]
   exact aM j (.inr T)
theorem ahS{g:Go.bh.Node}{t:a1->Option f1}{f:Int×Int}:(sq t g f).1=0↔f.1=0/\(QT g).Nodup/\∀x∈eC g,¬(t x.2.on=none/\x.2.on≠[]):=by
 unfold sq
 have R:=VP (λx:Int×el=>t x.2.on=none/\x.2.on≠[]) (λ_=>23) (λx=>x.2.fP) (λ_=>Zd) (eC g) ((eC g).foldl ld (λ_=>none,f)).2
 have au:(eC g).foldl (ql t) ((eC g).foldl ld (λ_=>none,f)).2=(eC g).foldl (λf x=>if t x.2.on=none/\x.2.on≠[]then lS f 23 x.2.fP else f) ((eC g).foldl ld (λ_=>none,f)).2:=rfl
 rw[au,R,aig _ _ _ (λx ag=>by rcases ain ag with a|a|a<;>omega)]
 simp[QT,and_assoc]
def h2(w:a1)(l:List a1):Int:=((l.filter λx=>decide (x=w)).length:Int)
theorem Dx(w x:a1)(l:List a1):h2 w (x::l)=(if x=w then 1 else 0)+h2 w l:=by
 unfold h2
 rw[Ym]
 by_cases a:x=w
 ·simp[a];omega
 ·simp[a]
theorem Ge(w:a1):h2 w []=0:=rfl
theorem Bm(w:a1)(l:List a1):0<=h2 w l:=by unfold h2;omega
theorem NG(w:a1)(l m:List a1):h2 w (l++m)=h2 w l+h2 w m:=by unfold h2;rw[List.filter_append,ZQ];omega
theorem Gd{w:a1}{l:List a1}:0<h2 w l↔w∈l:=by
 induction l with
 |nil=>simp[Ge]
 |cons x l ah=>
  have:=Bm w l
  rw[Dx]
  by_cases a:x=w
  ·simp[a];omega
  ·have cv:¬w=x:=λE=>a E.symm
   simp[a,cv,ah]
theorem QN(t:a1->Option f1):∀(l:List (a1×Int)) (s:(a1->Option Int)×(Int×Int)) (w:a1),((l.foldl (m2 t) s).1 w).getD 0=(s.1 w).getD 0+h2 w (l.map Prod.fst):=by
 intro l
 induction l with
 |nil=>intro s w;simp[Ge]
 |cons x l ah=>
  intro s w
  rw[ZL,ah,Zy,Dx]
  simp only[m2]
  by_cases a:w=x.1
  ·subst a;simp;omega
  ·have cv:¬x.1=w:=λE=>a E.symm
   simp[a,cv]
theorem apc(t:a1->Option f1):∀(l:List (a1×Int)) (s:(a1->Option Int)×(Int×Int)),(∀w,0<=(s.1 w).getD 0)->((l.foldl (m2 t) s).2.1=0↔s.2.1=0/\∀w∈l.map Prod.fst,∃v,t w=some v/\v.kind≠1/\(s.1 w).getD 0+h2 w (l.map Prod.fst)<=1):=by
 intro l
 induction l with
 |nil=>intro s _;simp
 |cons x l ah=>
  intro s aH
  have pO:∀w,0<=((m2 t s x).1 w).getD 0:=by
   intro w
   have:=aH w
   have:=aH x.1
   simp only[m2]
   split
   ·simp;omega
   ·assumption
  rw[ZL,ah _ pO]
  have HL:=aH x.1
  constructor
  ·rintro⟨M,R⟩
   have au:s.2.1=0/\∃v,t x.1=some v/\v.kind≠1/\(s.1 x.1).getD 0+1<=1:=by
    simp only[m2,H5]at M
    cases aT:t x.1 with
    |none=>rw[aT]at M;exact absurd M (yI _ _ Zd)
    |some v=>
     rw[aT]at M
     simp only[]at M
     split at M
     ·exact absurd M (yI _ _ Zd)
     ·rename_i cf
      exact⟨M,v,rfl,λE=>cf (.inl E),by have:¬1<(s.1 x.1).getD 0+1:=λE=>cf (.inr E);omega⟩
   refine⟨au.1,λw bL=> ?_⟩
   rw[Zy,Zl]at bL
   rw[Zy,Dx]
   by_cases sQ:w=x.1
   ·subst sQ
    obtain⟨v,aM,bA,cr⟩:=au.2
    refine⟨v,aM,bA, ?_⟩
    by_cases bi:x.1∈l.map Prod.fst
    ·obtain⟨gO,_,_,dM⟩:=R _ bi
     simp only[m2,ZB,Yw]at dM ⊢
     omega
    ·have:¬0<h2 x.1 (l.map Prod.fst):=λE=>bi (Gd.1 E)
     have:=Bm x.1 (l.map Prod.fst)
     simp only[ZB]
     omega
   ·rcases bL with bL|bL
    ·exact absurd bL sQ
    ·obtain⟨v,aM,bA,cr⟩:=R _ bL
     have Qf:¬x.1=w:=λE=>sQ E.symm
     simp only[m2,sQ,Zx]at cr
     exact⟨v,aM,bA,by simp only[Qf,Zx];omega⟩
  ·rintro⟨M,R⟩
   obtain⟨v,aM,bA,cr⟩:=R x.1 Zs
   rw[Zy,Dx,Zr rfl]at cr
   have ay:=Bm x.1 (l.map Prod.fst)
   refine⟨?_,λw bL=> ?_⟩
   ·simp only[m2,H5,aM]
    rw[Zg (by rintro(E|E);exact bA E;omega)]
    exact M
   ·obtain⟨gO,bN,cg,cH⟩:=R w (by rw[Zy];exact Zn _ bL)
    refine⟨gO,bN,cg, ?_⟩
    rw[Zy,Dx]at cH
    simp only[m2]
    by_cases sQ:w=x.1
    ·subst sQ;simp only[ZB,Yw];simp only[ZB]at cH;omega
    ·have Qf:¬x.1=w:=λE=>sQ E.symm
     simp only[sQ,Zx];simp only[Qf,Zx]at cH;omega
theorem QE(ar:fg):(qB ar).map Prod.fst=ar.left:=by
 simp only[qB,YG]
 have:(Prod.fst∘λx:a1×Nat=>(x.1,(ar.cM[x.2]?).getD 0))=Prod.fst:=rfl
 rw[this]
 exact List.zipIdx_map_fst ..
def Dd(t:a1->Option f1)(aC:List Go.bh.Node)(B:Nat)(E:bM):Prop:=∀x∈CL E,(m3 x=true->(t x.name).isSome=true)/\(x.kind=25->∃aa,pt aC x.name=some aa/\aa<B)
theorem ary{t:a1->Option f1}{aC:List Go.bh.Node}{B:Nat}{f:Int×Int}{E:bM}:(Mg t aC B f E).1=0↔f.1=0/\Dd t aC B E:=by
 unfold Mg Dd
 rw[Sa _ (λ_ _=>rfl)]
 generalize CL E=l
 induction l generalizing f with
 |nil=>simp
 |cons x l ah=>
  rw[ZL,ah]
  have M:(rZ t aC B f x).1.1=0↔f.1=0/\(m3 x=true->(t x.name).isSome=true)/\(x.kind=25->∃aa,pt aC x.name=some aa/\aa<B):=by
   simp only[rZ,Fj]
   have R:(wq t f x).1=0↔f.1=0/\(m3 x=true->(t x.name).isSome=true):=by
    unfold wq
    by_cases a:m3 x=true
    ·rw[Zr a]
     by_cases cv:(t x.name).isSome=true
     ·rw[Zr cv];simp[cv]
     ·rw[Zg cv];simp[a,cv,yI]
    ·rw[Zg a];simp[a]
   by_cases lW:x.kind=25
   ·rw[Zr lW]
    cases b5:pt aC x.name with
    |none=>simp[yI,lW]
    |some aa=>
     simp only[]
     by_cases aP:B<=aa
     ·rw[Zr aP]
      have:¬aa<B:=Zo
      simp[yI,lW,this]
     ·rw[Zg aP,R]
      have:aa<B:=Zo
      simp[lW,this]
   ·rw[Zg lW,R];simp[lW]
  rw[M]
  simp only[Zl,zk,and_assoc]
theorem aq5(t:a1->Option f1)(aC:List Go.bh.Node)(B:Nat):∀(l:List fg) (s:(a1->Option Int)×(Int×Int)) (w:a1),((l.foldl (ls t aC B) s).1 w).getD 0=(s.1 w).getD 0+h2 w (l.flatMap fg.left):=by
 intro l
 induction l with
 |nil=>intro s w;simp[Ge]
 |cons ar l ah=>
  intro s w
  rw[ZL,ah,Yr,NG]
  simp only[ls]
  rw[QN,QE]
  omega
theorem aq6(t:a1->Option f1)(aC:List Go.bh.Node)(B:Nat):∀(l:List fg) (s:(a1->Option Int)×(Int×Int)),(∀w,0<=(s.1 w).getD 0)->((l.foldl (ls t aC B) s).2.1=0↔s.2.1=0/\(∀w∈l.flatMap fg.left,∃v,t w=some v/\v.kind≠1/\(s.1 w).getD 0+h2 w (l.flatMap fg.left)<=1)/\∀ar∈l,Dd t aC B ar.right):=by
 intro l
 induction l with
 |nil=>intro s _;simp
 |cons ar l ah=>
  intro s aH
  have pO:∀w,0<=((ls t aC B s ar).1 w).getD 0:=by
   intro w
   simp only[ls]
   rw[QN]
   have:=aH w
   have:=Bm w ((qB ar).map Prod.fst)
   omega
  rw[ZL,ah _ pO]
  have bF:(ls t aC B s ar).2.1=0↔(s.2.1=0/\∀w∈ar.left,∃v,t w=some v/\v.kind≠1/\(s.1 w).getD 0+h2 w ar.left<=1)/\Dd t aC B ar.right:=by
   simp only[ls]
   rw[ary,apc t _ _ aH,QE]
  have cB:∀w,((ls t aC B s ar).1 w).getD 0=(s.1 w).getD 0+h2 w ar.left:=by
   intro w
   simp only[ls]
   rw[QN,QE]
  rw[bF]
  simp only[cB,Yr,NG,Zw,Zl,zk]
  constructor
  ·rintro⟨⟨⟨M,R⟩,au⟩,aM,bA⟩
   refine⟨M,λw bL=> ?_,au,bA⟩
   by_cases bi:w∈l.flatMap fg.left
   ·obtain⟨v,bN,cg,cH⟩:=aM w bi
    exact⟨v,bN,cg,Zo⟩
   ·have ci:¬0<h2 w (l.flatMap fg.left):=λE=>bi (Gd.1 E)
    have:=Bm w (l.flatMap fg.left)
    obtain⟨v,bN,cg,cH⟩:=R w (bL.resolve_right bi)
    exact⟨v,bN,cg,Zo⟩
  ·rintro⟨M,R,au,aM⟩
   refine⟨⟨⟨M,λw bL=> ?_⟩,au⟩,λw bL=> ?_,aM⟩
   ·obtain⟨v,bN,cg,cH⟩:=R w (.inl bL)
    have:=Bm w (l.flatMap fg.left)
    exact⟨v,bN,cg,Zo⟩
   ·obtain⟨v,bN,cg,cH⟩:=R w (.inr bL)
    exact⟨v,bN,cg,Zo⟩
theorem atg(Z:a1->Option Int)(l:List (Int×el))(f:Int×Int):(l.foldl (qS Z) f).1=0↔f.1=0/\∀x∈l,¬(x.1≠1/\(Z x.2.name).getD 0=0):=
 VP (λx:Int×el=>x.1≠1/\(Z x.2.name).getD 0=0) (λ_=>37) (λx=>x.2.at_) (λ_=>Zd) l f
end
end Go.Proofs.YtpfajohmofnkfaaGreatDoor

