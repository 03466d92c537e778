/- A part of the proof of the claim's last text: what it is used for is said there; no condition of its own. -/
import Derived.Test.YtpfajohmofnkfaaGreatDoorYt
set_option maxHeartbeats 8000000
set_option linter.unusedVariables false
set_option linter.unusedSimpArgs false
namespace Go.Proofs.YtpfajohmofnkfaaGreatDoor
open Go.al Go.bh
noncomputable section
def CA(s:a1)(i:Nat):Option Tok:=
 let d:=(s.drop i).takeWhile ij
 if (ka d).2≠0\/20<d.length then none
 else
  let Ru:=(s.drop (i+d.length)).takeWhile iy
  if Ru=[]then some ⟨4,d,0,(ka d).1,dA⟩
  else match kO Ru with
   |some t=>if !t.b&&uc t (ka d).1 then some ⟨5,d++Ru,0,(ka d).1,t⟩else none
   |none=>none
theorem R3:∀{w:a1}{t:iu},kO w=some t->kj t=true:=by
 intro w t a
 cases w with
 |nil=>cases a
 |cons c l=>
  by_cases ai:c::l=[98,111,111,108]
  ·rw[Mz,Zr ai]at a
   cases a
   rfl
  ·obtain⟨_,n,M,R,_,rfl⟩:=IP a ai
   simp[kj];omega
section
variable{X:cD}{h V bb aV:U an}{k av aQ bp fQ:Nat}{s:a1}{i:Nat}
theorem apV(aA:iD X)(b7:lL X)(S:mj X h fQ s i)(ai:∀c∈s,c<256)(aS:(y X).bj<=k)(HC:fQ<k):
 a6 X 113 [.ptr fQ 0] h k (λad V av=>(∃B,ad= .tuple [.agg (bZ B), .bool (CA s i).isSome]/\∀x,CA s i=some x->B=x)/\bB X h k V av) (λ_ _ _=>False):=by
 refine dj (ac8 X) (aA.none _ _ rfl) ?_
 rw[ac9]
 unfold Sv
 have dD:=S.dD
 have hL:=S.fK
 have ll:=S.le
 have avq:=S.many
 obtain⟨cb,b1,dT⟩:=QQ S ai i ij (λc a=>by simp[iy,a])
 have Iw:=C4 ij (s.drop i)
 rw[Yx]at Iw
 have rD:∀cJ,mj X (bm X h k cJ) fQ s i:=λcJ=>S.af (aK aS Zo)
 refine cx @dD ⟨?_⟩
 refine(Mk aA.tod7 (arA aA.tod7) (rD _) S.le).Zm ?_
 rintro ad aV bp ⟨rfl,rfl,rfl⟩
 generalize jy:CA s i=N
 unfold CA at jy
 simp only[]at jy
 generalize (s.drop i).takeWhile ij=d at*
 refine c0 ⟨?_⟩
 refine eZ (λbb=>ab X bb k=some (.cells (U.ofList [.int .i64 0, .str [], .int .i64 0, .int .u64 0, .bool false, .bool false, .int .i64 0] 0 .nil) 7 .own)/\bB X h k bb (k+1)) ⟨by simp(disch:=omega) only[aK,bq]<;>rfl,dR⟩ ?_
 rintro bb ⟨b9,b8⟩
 refine(aqx aA b7 cb b1 Zo).Zm ?_
 rintro ad bo bw ⟨⟨E,rfl,aW⟩,cE⟩
 have jf:=cE.le
 have rj:=b8.trans cE
 have g3:ab X bo k=some (.cells (U.ofList [.int .i64 0, .str [], .int .i64 0, .int .u64 0, .bool false, .bool false, .int .i64 0] 0 .nil) 7 .own):=by rw[cE.af _ Zo];exact b9
 have xy:=S.af (rj.af fQ HC)
 have av4:H.agg [.int .i64 0, .str [], .int .i64 0, .int .u64 0, .bool false, .bool false, .int .i64 0]= .agg (bZ gG):=rfl
 rcases aW with ⟨ci,rfl⟩|⟨ci,b,rfl⟩
 ·by_cases fj:20<d.length
  ·rw[Zr (.inr fj)]at jy
   subst jy
   have cQ:decide ((20:Int)<(d.length:Int))=true:=by simp only[Zh];omega
   refine dc @Cv @cQ ⟨?_⟩
   exact⟨⟨gG,rfl,λx a=>by cases a⟩,bB.set rj Zo aS Zo⟩
  have cQ:decide ((20:Int)<(d.length:Int))=false:=by simp only[Zb];omega
  rw[Zg (by rintro(a|a);exact a ci;exact fj a)]at jy
  have gQ:=xy.dD
  have bF:aL .add (.int .i64 (i:Int)) (.int .i64 (d.length:Int))=some (.int .i64 ((i+d.length:Nat):Int)):=by rw[eQ Zo Zo];rfl
  refine hk @Cv @cQ @gQ @bF ⟨?_⟩
  refine(Mk aA.tod7 (abT aA.tod7) xy Zo).Zm ?_
  rintro ad bX dd ⟨rfl,rfl,rfl⟩
  obtain⟨fe,hg,wl⟩:=QQ xy ai (i+d.length) iy (λ_ a=>a)
  generalize (s.drop (i+d.length)).takeWhile iy=w at*
  by_cases bL:w=[]
  ·have cG:decide (w=[])=true:=by simp[bL]
   rw[Zr bL]at jy
   subst jy
   refine cx @cG ⟨?_⟩
   exact⟨⟨⟨4,d,0,(ka d).1,dA⟩,rfl,λx a=>by cases a;rfl⟩,bB.set rj Zo aS Zo⟩
  have cG:decide (w=[])=false:=by simp[bL]
  rw[Zg bL]at jy
  refine cx @cG ⟨?_⟩
  refine(acm aA b7 fe hg wl Zo).Zm ?_
  rintro ad b4 cA ⟨rfl,dX⟩
  have iW:=dX.le
  have g5:ab X b4 k=some (.cells (U.ofList [.int .i64 0, .str [], .int .i64 0, .int .u64 0, .bool false, .bool false, .int .i64 0] 0 .nil) 7 .own):=by rw[dX.af _ Zo];exact g3
  have BH:=rj.trans dX
  generalize aT:(kO w).getD dA=t
  have Eo:lx t=[.bool t.b, .bool t.s, .int .i64 t.w]:=rfl
  rw[Eo]
  refine hH ⟨?_⟩
  refine hH ⟨?_⟩
  refine hH ⟨?_⟩
  refine hH ⟨?_⟩
  refine hH ⟨?_⟩
  generalize hJ:bm X _ cA _=ck
  have g6:ab X ck cA=some (.cells (U.ofList [.bool t.b, .bool t.s, .int .i64 t.w] 0 .nil) 3 .own):=by rw[<-hJ,bq Zo];rfl
  have g7:ab X ck k=some (.cells (U.ofList [.int .i64 0, .str [], .int .i64 0, .int .u64 0, .bool false, .bool false, .int .i64 0] 0 .nil) 7 .own):=by rw[<-hJ];simp(disch:=omega) only[aK];exact g5
  have eU:bB X h k ck (cA+1):=BH.trans (by rw[<-hJ];exact dR)
  clear hJ g5 g3 b9
  have sm:∀h,dn X h .add 9 false (.str d) (.str w)=some (.str (d++w)):=λh=>by
   have:Nat.ble (d.length+w.length) 1000000000=true:=ml Zo
   simp only[dn,ys,this,eB]
  have RD:∀aj:Prop,aj->h8 (.str (d++w)) (some (.str (d++w))) aj:=λaj a=>jH (by simp[H.same,Ct]) a
  have IG:∀aj:Prop,aj->h8 (.agg [.bool t.b, .bool t.s, .int .i64 t.w]) (some (.agg [.bool t.b, .bool t.s, .int .i64 t.w])) aj:=λaj a=>jH (by simp[H.same,p0,qL]) a
  have fN:bZ ⟨5,d++w,0,(ka d).1,t⟩=[.int .i64 5, .str (d++w), .int .i64 0, .int .u64 (ka d).1, .bool t.b, .bool t.s, .int .i64 t.w]:=rfl
  cases ry:kO w with
  |none=>
   rw[ry]at jy
   simp only[]at jy
   subst jy
   simp only[ZX]
   refine dc @sm (bW g6) ⟨?_⟩
   refine RD _ ?_
   refine dc @sm (bW g6) ⟨?_⟩
   refine IG _ ?_
   refine c0 ⟨?_⟩
   refine⟨⟨⟨5,d++w,0,(ka d).1,t⟩, ?_,λx a=>by cases a⟩,bB.set eU Zo aS Zo⟩
   rw[fN]
  |some gV=>
   have anm:gV=t:=by rw[ry]at aT;exact aT
   subst anm
   have ame:=R3 ry
   rw[ry]at jy
   simp only[]at jy
   cases l3:gV.b with
   |true=>
    rw[l3]at jy g6 fN IG
    simp only[Yg,Bool.false_and,Zt,Zx]at jy
    subst jy
    simp only[ZX,Z4]
    refine dc @sm (bW g6) ⟨?_⟩
    refine RD _ ?_
    refine dc @sm (bW g6) ⟨?_⟩
    refine IG _ ?_
    refine c0 ⟨?_⟩
    refine⟨⟨⟨5,d++w,0,(ka d).1,gV⟩, ?_,λx a=>by cases a⟩,bB.set eU Zo aS Zo⟩
    rw[fN]
   |false=>
    rw[l3]at jy g6 fN IG
    simp only[Ye,zn]at jy
    simp only[Z4]
    refine dc @sm (bW g6) ⟨?_⟩
    have ay:=amw (k:=cA+1+19) (h:=ck) aA.tod7 gV ame ((ka d).1:Int) Zo
    have ank:lx gV=[.bool false, .bool gV.s, .int .i64 gV.w]:=by rw[<-l3];rfl
    rw[ank]at ay
    refine ay.Zm ?_
    rintro ad cC ew ⟨rfl,e9⟩
    have oX:=e9.le
    have g8:ab X cC cA=some (.cells (U.ofList [.bool false, .bool gV.s, .int .i64 gV.w] 0 .nil) 3 .own):=by rw[e9.af _ Zo];exact g6
    have jv:ab X cC k=some (.cells (U.ofList [.int .i64 0, .str [], .int .i64 0, .int .u64 0, .bool false, .bool false, .int .i64 0] 0 .nil) 7 .own):=by rw[e9.af _ Zo];exact g7
    have akI:bB X h k cC ew:=⟨by have:=eU.le;omega,λj T=>by rw[e9.af j (by have:=eU.le;omega)];exact eU.af j T⟩
    have akZ:N.isSome=uc gV ((ka d).1:Int):=by
     rw[<-jy];cases uc gV ((ka d).1:Int)<;>rfl
    rw[akZ]
    refine cx @sm ⟨?_⟩
    refine RD _ ?_
    refine cx (bW g8) ⟨?_⟩
    refine IG _ ?_
    refine c0 ⟨?_⟩
    refine⟨⟨⟨5,d++w,0,(ka d).1,gV⟩, ?_,λx a=> ?_⟩,bB.set akI Zo aS Zo⟩
    ·rw[fN]
    ·rw[<-jy]at a
     split at a
     ·cases a;rfl
     ·cases a
 ·rw[Zr (.inl ci)]at jy
  subst jy
  refine cx @aaW ⟨?_⟩
  exact⟨⟨gG,rfl,λx a=>by cases a⟩,bB.set rj Zo aS Zo⟩
end
end
end Go.Proofs.YtpfajohmofnkfaaGreatDoor

namespace Go.Proofs.YtpfajohmofnkfaaGreatDoor
open Go.al Go.bh
noncomputable section
def x5:List a1:=[[45,62],[60,60],[62,62],[60,61],[62,61],[60,62],[40],[41],[44],[59],[58],[61],[60],[62],[43],[45],[42]]
structure MY(X:cD):Prop where
 at_:∀h,cL X h 17 (.ptr 1 0)=some (.agg (x5.map H.str))
def G3(s p:a1):Bool:=decide (p.length<=s.length/\s.take p.length=p)
def uN(s:a1)(i:Nat):Option a1:=x5.find? (G3 (s.drop i))
def CT(p:a1):Tok:=⟨6,p,0,0,dA⟩
theorem VI{α:Type}(p:α->Bool):∀(l:List α) (aa:Nat),(∀B<aa,∀x,l[B]? =some x->p x=false)->l.find? p=(l.drop aa).find? p:=by
 intro l aa
 induction aa with
 |zero=>intro _;rfl
 |succ aa ah=>
  intro a
  rw[ah λB aP=>a B Zo]
  by_cases bK:aa<l.length
  ·rw[ZA bK,YT]
   have:=a aa Zo l[aa] (Zf bK)
   rw[this]
  ·rw[Z1 Zo,Z1 Zo]
section
variable{X:cD}{h V bb aV:U an}{k av aQ bp fQ:Nat}{s:a1}{i:Nat}
theorem ar9(aA:iD X)(eJ:MY X)(S:mj X h fQ s i)(aS:(y X).bj<=k)(HC:fQ<k):
 a6 X 111 [.ptr fQ 0] h k (λad V av=>ad= .tuple [.agg (bZ (match uN s i with|some p=>CT p|none=>gG)), .bool (uN s i).isSome]/\bB X h k V av) (λ_ _ _=>False):=by
 refine dj (ac4 X) (aA.none _ _ rfl) ?_
 rw[ac5]
 unfold St
 have hL:=S.fK
 have nv:jQ (.str s) (some (.int .i64 (i:Int))) none=some (.str (s.drop i)):=Mq .i64 S.le
 have bV:=eJ.at_
 refine cx @bV ⟨?_⟩
 have b9:ab X (bm X h k (some (.cells (U.ofList [.int .i64 0, .str [], .int .i64 0, .int .u64 0, .bool false, .bool false, .int .i64 0] 0 .nil) 7 .own))) k=some (.cells (U.ofList [.int .i64 0, .str [], .int .i64 0, .int .u64 0, .bool false, .bool false, .int .i64 0] 0 .nil) 7 .own):=bq aS
 have b8:bB X h k (bm X h k (some (.cells (U.ofList [.int .i64 0, .str [], .int .i64 0, .int .u64 0, .bool false, .bool false, .int .i64 0] 0 .nil) 7 .own))) (k+1):=dR
 refine f8 (λm J V aY=>∃(aa:Nat),J.g 0=some (.ptr fQ 0)/\J.g 2=some (.ptr k 0)/\J.g 6=some (.agg (x5.map H.str))/\J.g 7=some (.int .i64 (aa:Int))/\aa+m=17/\ab X V k=some (.cells (U.ofList [.int .i64 0, .str [], .int .i64 0, .int .u64 0, .bool false, .bool false, .int .i64 0] 0 .nil) 7 .own)/\bB X h k V aY/\k+1<=aY/\∀B<aa,∀x,x5[B]? =some x->G3 (s.drop i) x=false)
  17 ⟨0,bv,bv,bv,gL,Zo,b9,b8,Zj _,λB aP=>Zo⟩ ?_
 clear b9 b8
 rintro m J aV bp ⟨aa,t0,eX,gN,hY,bK,b3,ct,ns,pL⟩
 have ha:=S.af (ct.af fQ HC)
 have d1:=ha.d1
 have dD:=ha.dD
 cases m with
 |zero=>
  have d:decide ((aa:Int)<17)=false:=by simp only[Zb];omega
  have b5:uN s i=none:=by
   unfold uN
   rw[VI _ _ aa pL,show x5.drop aa=[] from Z1 (by show 17<=aa;omega)]
   rfl
  rw[b5]
  refine e8 @hY @d @eX ⟨?_⟩
  exact⟨rfl,bB.set ct Zo aS Zo⟩
 |succ m=>
  have d:decide ((aa:Int)<17)=true:=by simp only[Zh];omega
  have bF:aL .add (.int .i64 (aa:Int)) (.int .i64 1)=some (.int .i64 ((aa+1:Nat):Int)):=by rw[eQ Zo Zo];rfl
  obtain⟨p,ax⟩:∃p,x5[aa]? =some p:=⟨_,Zf (by show aa<17;omega)⟩
  have eG:pV false 17 1 (.agg (x5.map H.str)) (.int .i64 (aa:Int))=some (.str p):=by
   have:Nat.blt aa 17=true:=by simp[Nat.blt];omega
   simp only[pV,p2,this,eB,iF,m5,Yd,Zv,ax];rfl
  refine e0 @hY @gN @t0 @d @eG @d1 (Za @dD @nv) ⟨?_⟩
  refine(abz aA.tod7 (s.drop i) p).Zm ?_
  rintro ad bo bw ⟨rfl,rfl,rfl⟩
  have B4:decide (p.length<=(s.drop i).length/\(s.drop i).take p.length=p)=G3 (s.drop i) p:=rfl
  rw[B4]
  cases gB:G3 (s.drop i) p with
  |true=>
   have b5:uN s i=some p:=by
    unfold uN
    obtain⟨ag,T⟩:=Zc.1 ax
    have aI:x5.drop aa=p::x5.drop (aa+1):=by rw[ZA ag,T]
    rw[VI _ _ aa pL,aI,YT,gB]
   rw[b5]
   refine cx @eX ⟨?_⟩
   exact⟨rfl,bB.set ct Zo aS Zo⟩
  |false=>
   refine dc @hY @bF ⟨?_⟩
   refine⟨m,Zo,aa+1,bn t0,bn eX,bn gN,bv,Zo,b3,⟨Zo,ct.af⟩,Zo,λB aP x ag=> ?_⟩
   by_cases KV:B=aa
   ·subst KV;rw[ax]at ag;cases ag;exact gB
   ·exact pL B Zo x ag
end
end
end Go.Proofs.YtpfajohmofnkfaaGreatDoor

namespace Go.Proofs.YtpfajohmofnkfaaGreatDoor
open Go.al Go.bh
noncomputable section
def ww(s:a1)(i:Nat):Option Tok:=match s[i]? with
 |none=>none
 |some c=>if ij c then CA s i else if pT c then(if (s1 s i).2 then some (s1 s i).1 else none)else(uN s i).map CT
def lz(x:Tok)(i:Nat):Tok:=⟨x.kind,x.text,i,x.n,x.ty⟩
def r0(s:a1):Nat->List Tok->Nat->Option (Except Int (List Tok))
 |0,_,_=>none
 |n+1,aR,i=>if i<s.length then match ww s i with
   |none=>some (.error i)
   |some x=>r0 s n (aR++[lz x i]) (nh s s.length (i+x.text.length))
  else some (.ok (aR++[⟨7,[],i,0,dA⟩]))
theorem Nu(s:a1):∀(n i:Nat),i<=nh s n i:=by
 intro n
 induction n with
 |zero=>intro i;exact Zj _
 |succ n ah=>
  intro i
  rw[nh]
  split
  ·exact Zj _
  ·split
   ·exact Zz Zo (ah (i+1))
   ·split
    ·exact Zz Zo (ah _)
    ·exact Zj _
theorem R2{s:a1}{i:Nat}{x:Tok}(a:ww s i=some x):1<=x.text.length/\i+x.text.length<=s.length:=by
 unfold ww at a
 cases ay:s[i]? with
 |none=>rw[ay]at a;cases a
 |some c=>
  rw[ay]at a
  simp only[]at a
  obtain⟨ag,T⟩:=Zc.1 ay
  have aI:s.drop i=c::s.drop (i+1):=by rw[ZA ag,T]
  have aE:(s.drop i).length=s.length-i:=Yx
  split at a
  ·rename_i oV
   have M:=C4 ij (s.drop i)
   have R:1<=((s.drop i).takeWhile ij).length:=by rw[aI,YB,oV];simp
   unfold CA at a
   simp only[]at a
   generalize (s.drop i).takeWhile ij=d at*
   split at a
   ·cases a
   ·have au:=C4 iy (s.drop (i+d.length))
    rw[Yx]at au
    split at a
    ·cases a;exact⟨R,by show i+d.length<=_;omega⟩
    ·split at a
     ·split at a
      ·cases a
       refine⟨?_, ?_⟩
       ·show 1<=(d++_).length;rw[ZQ];omega
       ·show i+(d++_).length<=_;rw[ZQ];omega
      ·cases a
     ·cases a
  ·split at a
   ·rename_i xj
    have M:=C4 iy (s.drop i)
    have R:1<=((s.drop i).takeWhile iy).length:=by rw[aI,YB,show iy c=true from by simp[iy,xj]];simp
    split at a
    ·cases a
     exact⟨R,by show i+((s.drop i).takeWhile iy).length<=_;omega⟩
    ·cases a
   ·simp only[Z0]at a
    obtain⟨p,M,rfl⟩:=a
    have R:=List.find?_some M
    have au:=List.mem_of_find?_eq_some M
    simp[G3]at R
    refine⟨?_, ?_⟩
    ·show 1<=p.length
     revert au
     clear M R
     revert p
     decide
    ·show i+p.length<=_;omega
theorem ej.narrow{C:aX}{h:U an}{P:Nat->Prop}{b bd:Nat}{bx:H}{b6:List (List H)}(a:ej C h P b bx bd b6):ej C h (λj=>j=b) b bx bd b6:=⟨λ_=>rfl,a.many,a.wide,a.len,a.ik,a.cell⟩
section
variable{X:cD}{h V bb aV:U an}{k av aQ bp fQ:Nat}{s:a1}{i:Nat}
structure FG(X:cD):Prop where
 err:lL X
 res:I7 X
 sig:MY X
def T9(X:cD)(k:Nat)(r:Except Int (List Tok))(ad:H)(V:U an)(av:Nat):Prop:=match r with
 | .error I=>ad= .tuple [.aU, .agg [.int .i64 20, .int .i64 I]]
 | .ok aR=>∃ap bE,ad= .tuple [ap, .agg [.int .i64 0, .int .i64 0]]/\ej X V (λj=>j=bE) bE ap 7 (aR.map bZ)/\k<=bE/\bE<av
theorem agH(aA:iD X)(eJ:FG X)(aH:s.length<=65536)(ai:∀c∈s,c<256)(aS:(y X).bj<=k){a0:H}(aE:eF a0=some (.int .i64 (s.length:Int)))(BP:∀V aY,bB X h k V aY->yB X V a0=some (.str s))
 {r:Except Int (List Tok)}(S:r0 s (s.length+1) [] (nh s s.length 0)=some r):
 a6 X 66 [a0] h k (λad V av=>T9 X k r ad V av/\bB X h k V av) (λ_ _ _=>False):=by
 refine dj (afR X) (aA.none _ _ rfl) ?_
 rw[afS]
 unfold TW
 have oN:decide ((65536:Int)<(s.length:Int))=false:=by simp only[Zb];omega
 have vO:=BP (bm X h k (some (.cells (U.ofList [.int .i64 0, .int .i64 0] 0 .nil) [H.int .i64 0, .int .i64 0].length .own))) (k+1) dR
 refine dc @aE @oN ⟨?_⟩
 refine fH vO ?_
 refine c0 ⟨?_⟩
 refine eZ (λbb=>ab X bb k=some (.cells (U.ofList [.int .i64 0, .int .i64 0] 0 .nil) 2 .own)/\ab X bb (k+1)=some (.cells (U.ofList [.str s, .int .i64 ((0:Nat):Int)] 0 .nil) 2 .own)/\bB X h k bb (k+1+1)) ⟨by simp(disch:=omega) only[aK,bq]<;>rfl,by rw[bq Zo];rfl,dR⟩ ?_
 rintro bb ⟨b9,b3,b8⟩
 have rD:mj X bb (k+1) s 0:=⟨b3,Zo,aH,Zo⟩
 refine(UI aA rD ai Zo Zo).Zm ?_
 rintro ad aV bp ⟨ha,dl⟩
 have gZ:=dl.le
 have g3:ab X aV k=some (.cells (U.ofList [.int .i64 0, .int .i64 0] 0 .nil) 2 .own):=by rw[dl.af _ Zo Zs];exact b9
 have ct:bB X h k aV bp:=⟨Zo,λj T=>by rw[dl.af j Zo (by simp;omega)];exact b8.af j T⟩
 refine gh ?_
 refine f8 (λm J V aY=>∃(bx:H) (aR:List Tok) (db:List Nat) (aa:Nat),J.g 3=some (.ptr k 0)/\J.g 4=some (.ptr (k+1) 0)/\J.g 5=some bx/\ab X V k=some (.cells (U.ofList [.int .i64 0, .int .i64 0] 0 .nil) 2 .own)/\mj X V (k+1) s aa/\hE X V bx 7 (aR.map bZ).flatten db/\(∀j∈db,k+2<=j/\j<aY)/\bB X h k V aY/\k+2<=aY/\aR.length<=aa/\r0 s m aR aa=some r)
  (s.length+1) ⟨.aU,[],[],_,bv,bv,bv,g3,ha, .inl (.inl ⟨rfl,rfl,rfl⟩),Zs,ct,Zo,Zs,S⟩ ?_
 clear S b9 b3 g3 rD ha b8 ct dl gZ vO
 rintro m J aV bp ⟨bx,aR,db,aa,t3,t4,t5,b3,ha,uf,mV,ct,ns,avs,S⟩
 have d1:=ha.d1
 have dD:=ha.dD
 have rA:=ha.le
 cases m with
 |zero=>cases S
 |succ m=>
 rw[r0]at S
 have Xm:∀r∈aR.map bZ,r.length=7:=λr a=>by obtain⟨x,_,rfl⟩:=ZD.1 a;rfl
 have sM:=w4 Xm
 rw[Zu]at sM
 have Ut:∀(bo:U an) (bw b:Nat) (x:Tok),(∀j∈db,ab X bo j=ab X aV j)->bp<=bw->ab X bo b=some (.cells (U.ofList (bZ x) 0 .nil) 7 .own)->
  ∃jj bX iE,jY X bo bw 7 bx (.slice b 0 1 1)=some (.eW jj bX (bw+1))/\kb X bX jj 7 ((aR++[x]).map bZ).flatten iE/\(∀j∈iE,j=bw\/j∈db)/\∀j,j≠bw->j∉db->ab X bX j=ab X bo j:=by
  intro bo bw b x aP y4 alb
  have iX:jR X bo 7 (.slice b 0 1 1)=some (1,bZ x):=s9 alb (o1 _) rfl _
  obtain⟨jj,bX,iE,M,R,au,aM⟩:=(uf.af aP).append (k:=bw) Zd iX rfl Zd rfl (by rw[sM,show(bZ x).length=7 from rfl];omega) Zo (λj T=>by have:=mV j T;omega)
  refine⟨jj,bX,iE,M, ?_,au,aM⟩
  rw[Yv,zm,Zy,zw,Yp,List.flatten_nil,YC]
  exact R
 by_cases bK:aa<s.length
 ·have cQ:decide ((aa:Int)<(s.length:Int))=true:=by simp only[Zh];omega
  rw[Zr bK]at S
  obtain⟨c,ay⟩:∃c,s[aa]? =some c:=⟨_,Zf bK⟩
  have eG:=Al .i64 ay
  have KC:=ai c (Zp ay)
  refine gS @t4 @d1 (Za @dD (Za @cQ @eG)) ⟨?_⟩
  refine gh ?_
  refine gS @t4 @d1 (Za @dD (Za @cQ @eG)) ⟨?_⟩
  refine gh ?_
  refine gS @t4 @d1 (Za @dD (Za @cQ @eG)) ⟨?_⟩
  have rd:∀(B:Nat),(ij c=true->B=113)->(ij c=false->pT c=true->B=115)->(ij c=false->pT c=false->B=111)->∀LV,bp<=LV->
   a6 X B [.ptr (k+1) 0] aV LV (λad V aY=>(∃x,ad= .tuple [.agg (bZ x), .bool (ww s aa).isSome]/\∀j,ww s aa=some j->x=j)/\bB X aV LV V aY) (λ_ _ _=>False):=by
   intro B bN cg cH LV ave
   unfold ww
   rw[ay]
   simp only[]
   cases oV:ij c with
   |true=>
    rw[bN oV]
    simp only[ZB]
    exact apV aA eJ.err ha ai Zo Zo
   |false=>
    simp only[Zt,Zx]
    cases xj:pT c with
    |true=>
     rw[cg oV xj]
     simp only[ZB]
     refine(atK aA eJ.err eJ.res ha ai Zo Zo).Zm ?_
     rintro ad V aY ⟨rfl,b7⟩
     refine⟨⟨(s1 s aa).1, ?_,λj a=> ?_⟩,b7⟩
     ·cases(s1 s aa).2<;>rfl
     ·split at a
      ·cases a;rfl
      ·cases a
    |false=>
     rw[cH oV xj]
     simp only[Zt,Zx]
     refine(ar9 aA eJ.sig ha Zo Zo).Zm ?_
     rintro ad V aY ⟨rfl,b7⟩
     refine⟨⟨(match uN s aa with|some p=>CT p|none=>gG), ?_,λj a=> ?_⟩,b7⟩
     ·cases uN s aa<;>rfl
     ·cases cf:uN s aa with
      |none=>rw[cf]at a;cases a
      |some p=>rw[cf]at a;cases a;rfl
  refine j6 (λcT V aY=>∃B,cT.g 3=some (.ptr k 0)/\cT.g 4=some (.ptr (k+1) 0)/\cT.g 5=some bx/\cT.g 6=some (.func (.func B) [.ptr (k+1) 0] [])/\V=aV/\bp<=aY/\(ij c=true->B=113)/\(ij c=false->pT c=true->B=115)/\(ij c=false->pT c=false->B=111)) (λavF Pr=> ?_) ?_
  ·refine(NR aA.tod7 c).Zm ?_
   rintro ad bo bw ⟨rfl,rfl,rfl⟩
   cases oV:ij c with
   |true=>
    refine cx @t4 ⟨?_⟩
    exact Pr _ _ _ ⟨113,bn t3,bn t4,bn t5,bv,rfl,Zo,λ_=>rfl,(λa=>absurd a (by simp[oV])),(λa=>absurd a (by simp[oV]))⟩
   |false=>
    refine cx @t4 ⟨?_⟩
    refine(UF aA.tod7 c).Zm ?_
    rintro ad bo bw ⟨rfl,rfl,rfl⟩
    cases xj:pT c with
    |true=>
     refine cx @t4 ⟨?_⟩
     exact Pr _ _ _ ⟨115,bn t3,bn t4,bn t5,bv,rfl,Zo,(λa=>absurd a (by simp[oV])),λ_ _=>rfl,(λ_ a=>absurd a (by simp[xj]))⟩
    |false=>
     refine cx @t4 ⟨?_⟩
     exact Pr _ _ _ ⟨111,bn t3,bn t4,bn t5,bv,rfl,Zo,(λa=>absurd a (by simp[oV])),(λ_ a=>absurd a (by simp[xj])),λ_ _=>rfl⟩
  clear t3 t4 t5
  rintro atY bo bw ⟨B,t3,t4,t5,gN,rfl,y4,bN,cg,cH⟩
  refine cx @gN ⟨?_⟩
  refine(rd B bN cg cH _ y4).Zm ?_
  clear rd bN cg cH gN
  rintro ad bX dd ⟨⟨x,rfl,ag⟩,dN⟩
  have jC:=dN.le
  have ec:ab X bX k=some (.cells (U.ofList [.int .i64 0, .int .i64 0] 0 .nil) 2 .own):=by rw[dN.af _ Zo];exact b3
  have Lb:=ha.af (dN.af (k+1) Zo)
  have DP:bB X h k bX dd:=ct.trans ⟨Zo,λj T=>dN.af j Zo⟩
  have ann:bZ x=[.int .i64 x.kind, .str x.text, .int .i64 x.at_, .int .u64 x.n, .bool x.ty.b, .bool x.ty.s, .int .i64 x.ty.w]:=rfl
  rw[ann]
  refine hH ⟨?_⟩
  refine hH ⟨?_⟩
  refine hH ⟨?_⟩
  refine hH ⟨?_⟩
  refine hH ⟨?_⟩
  generalize lY:bm X _ dd _=b4
  have bA:∀j,j<dd->ab X b4 j=ab X bX j:=λj T=>by rw[<-lY];simp(disch:=omega) only[aK]
  have g5:ab X b4 dd=some (.cells (U.ofList (bZ x) 0 .nil) 7 .own):=by rw[<-lY,bq Zo];rfl
  have g6:=ec
  rw[<-bA _ Zo]at g6
  have Hz:=Lb.af (bA (k+1) Zo)
  have dX:bB X h k b4 (dd+1):=⟨Zo,λj T=>by rw[bA j Zo];exact DP.af j T⟩
  clear lY ec
  have ky:=Hz.dD
  cases Af:ww s aa with
  |none=>
   rw[Af]at S
   simp only[Ze]at S
   subst S
   simp only[ZX]
   refine e8 @t4 @t3 @ky ⟨?_⟩
   exact⟨rfl,bB.set dX (Zj _) aS Zo⟩
  |some j=>
   have:=ag j Af
   subst this
   rw[Af]at S
   simp only[]at S
   obtain⟨HL,Qc⟩:=R2 Af
   simp only[Z4]
   simp only[Yg]
   refine e8 @t4 @t3 @ky ⟨?_⟩
   generalize hJ:bm X b4 dd _=ck
   have cr:∀j,j≠dd->ab X ck j=ab X b4 j:=λj T=>by rw[<-hJ,aK Zo T]
   have g7:ab X ck dd=some (.cells (d0 (U.ofList (bZ x) 0 .nil) 2 [.int .i64 (aa:Int)]) 7 .own):=by rw[<-hJ,bq Zo];rfl
   have mY:=Hz.af (cr (k+1) Zo)
   have eU:bB X h k ck (dd+1):=⟨Zo,λj T=>by rw[cr j Zo];exact dX.af j T⟩
   have g8:=g6
   rw[<-cr _ Zo]at g8
   have ed:∀j∈db,ab X ck j=ab X bo j:=λj T=>by have:=mV j T;rw[cr j Zo,bA j Zo,dN.af j Zo]
   clear hJ g5 g6 Hz dX ky cr bA Lb DP
   have eh:ao X ck (.ptr dd 1)=some (.str x.text):=by rw[bW g7];rfl
   have bF:aL .add (.int .i64 (aa:Int)) (.int .i64 (x.text.length:Int))=some (.int .i64 ((aa+x.text.length:Nat):Int)):=by rw[eQ Zo Zo];rfl
   refine tF @eh ⟨?_⟩
   refine hH ⟨?_⟩
   refine tF @bF ⟨?_⟩
   refine hH ⟨?_⟩
   refine hH ⟨?_⟩
   refine fH (iO (B:=1) (b:=k+1) (W:=1) (n:=2) mY.g Zo rfl Zd Zd rfl) ?_
   generalize mT:bm X ck (k+1) _=cC
   have dM:∀j,j≠k+1->ab X cC j=ab X ck j:=λj T=>by rw[<-mT,aK Zo T]
   have amR:mj X cC (k+1) s (aa+x.text.length):=⟨by rw[<-mT,bq Zo];rfl,Qc,aH,Zo⟩
   have e9:bB X h k cC (dd+1):=⟨Zo,λj T=>by rw[dM j Zo];exact eU.af j T⟩
   rw[<-dM _ Zo]at g7 g8
   have gl:∀j∈db,ab X cC j=ab X bo j:=λj T=>by have:=mV j T;rw[dM j Zo];exact ed j T
   clear mT dM mY eU ed eh
   have fx:ao X cC (.ptr dd 0)=some (.int .i64 x.kind):=by rw[bW g7];rfl
   have eh:ao X cC (.ptr dd 1)=some (.str x.text):=by rw[bW g7];rfl
   have c5:ao X cC (.ptr dd 2)=some (.int .i64 (aa:Int)):=by rw[bW g7];rfl
   have eN:ao X cC (.ptr dd 3)=some (.int .u64 x.n):=by rw[bW g7];rfl
   have gE:ao X cC (.ptr dd 4)=some (.bool x.ty.b):=by rw[bW g7];rfl
   have gs:ao X cC (.ptr dd 5)=some (.bool x.ty.s):=by rw[bW g7];rfl
   have kX:ao X cC (.ptr dd 6)=some (.int .i64 x.ty.w):=by rw[bW g7];rfl
   refine e0 @fx @eh @c5 @eN @gE @gs (Za @kX @t5) ⟨?_⟩
   obtain⟨jj,dQ,iE,j3,P1,G5,BX⟩:=Ut (bm X cC (dd+1+11) (some (.cells (U.ofList (bZ (lz x aa)) 0 .nil) 7 .own))) (dd+1+11+1) (dd+1+11) (lz x aa) (λj T=>by have:=mV j T;rw[aK Zo Zo];exact gl j T) Zo (bq Zo)
   refine kI j3 ?_
   have dS:∀j,j<k+2->j∉db:=λj M R=>by have:=mV j R;omega
   have im:∀j,j<k+2->ab X dQ j=ab X cC j:=λj T=>by rw[BX j Zo (dS j T),aK Zo Zo]
   have amS:=amR.af (im (k+1) Zo)
   rw[<-im _ Zo]at g8
   have j1:bB X h k dQ (dd+1+11+1+1):=⟨Zo,λj T=>by rw[im j Zo];exact e9.af j T⟩
   have mq:∀j∈iE,k+2<=j/\j<dd+1+11+1+1:=λj T=>by
    rcases G5 j T with rfl|a
    ·omega
    ·have:=mV j a;omega
   refine cx @t4 ⟨?_⟩
   refine(UI aA amS ai Zo Zo).Zm ?_
   rintro ad dL ma ⟨pN,hv⟩
   have vW:=hv.le
   refine⟨m,Zo,jj,aR++[lz x aa],iE,_,bn t3,bn t4,bv,by rw[hv.af _ Zo Zs];exact g8,pN, .inl (P1.af λj T=>hv.af j (mq j T).2 (by have:=mq j T;simp;omega)),λj T=>by have:=mq j T;omega,⟨Zo,λj T=>by rw[hv.af j Zo (by simp;omega)];exact j1.af j T⟩,Zo, ?_,S⟩
   have:=Nu s s.length (aa+x.text.length)
   simp only[ZQ,ZC,ZR]
   omega
 ·have cQ:decide ((aa:Int)<(s.length:Int))=false:=by simp only[Zb];omega
  rw[Zg bK]at S
  cases S
  refine gd @t4 @d1 @dD @cQ @t5 ⟨?_⟩
  obtain⟨jj,bX,iE,j3,rF,tR,f6⟩:=Ut (bm X aV (bp+10) (some (.cells (U.ofList (bZ ⟨7,[],aa,0,dA⟩) 0 .nil) 7 .own))) (bp+10+1) (bp+10) ⟨7,[],aa,0,dA⟩ (λj T=>aK Zo (by have:=mV j T;omega)) Zo (bq Zo)
  refine kI j3 ?_
  have dS:∀j,j<k+2->j∉db:=λj M R=>by have:=mV j R;omega
  have ec:ab X bX k=some (.cells (U.ofList [.int .i64 0, .int .i64 0] 0 .nil) 2 .own):=by rw[f6 _ Zo (dS _ Zo),aK Zo Zo];exact b3
  have dN:bB X h k bX (bp+10+1+1):=⟨Zo,λj T=>by rw[f6 _ Zo (dS _ Zo),aK Zo Zo];exact ct.af j T⟩
  clear j3 f6
  refine cx @t3 ⟨?_⟩
  have al5:∀r∈(aR++[(⟨7,[],aa,0,dA⟩:Tok)]).map bZ,r.length=7:=λr a=>by obtain⟨x,_,rfl⟩:=ZD.1 a;rfl
  generalize lY:bm X bX k _=b4
  have bA:∀j,j≠k->ab X b4 j=ab X bX j:=λj T=>by rw[<-lY,aK Zo T]
  have WG:∀j∈iE,k+2<=j/\j<bp+10+1+1:=λj T=>by
   rcases tR j T with rfl|a
   ·omega
   ·have:=mV j a;omega
  obtain⟨bE,dp⟩:=(rF.af (V:=b4) (λj T=>bA j (by have:=WG j T;omega))).AQ Zd al5 (by simp;omega) (P:=λj=>k<=j/\j<bp+10+1+1) (λj T=>by have:=WG j T;omega)
  have jd:=dp.ai Zs
  exact⟨⟨jj,bE,rfl,ej.narrow dp,jd.1,jd.2⟩,⟨Zo,λj T=>by rw[bA j Zo];exact dN.af j T⟩⟩
end
end
end Go.Proofs.YtpfajohmofnkfaaGreatDoor

namespace Go.Proofs.YtpfajohmofnkfaaGreatDoor
open Go.al Go.bh
noncomputable section
section
variable{X:cD}{h V bb aV:U an}{k av aQ bp aF bE:Nat}{aR:List Tok}{i:Nat}
theorem QI(p:H):oH X h 23 p=ao X h p:=by kernel_rfl
theorem QJ(p:H):oH X h 26 p=cL X h 2 p:=by kernel_rfl
theorem aiN:dn X h .eql 20 true .nilIface .nilIface=some (.bool true):=by kernel_rfl
theorem aiK(B I:Int):dn X h .eql 20 true (w1 B I) .nilIface=some (.bool false):=by kernel_rfl
theorem UK:∃fn c,(y X).P.funcs[67]? =some fn/\fn.body=some c:=Oe (M6 X)
theorem arh(aA:d7 X){I b:H}{bR:Bool->U an->Nat->Prop}(a:bR false h k):yD X (.func 67) ([]++[I,b]) none h k bR:=by
 refine⟨aA.none _ _ rfl,UK,VN (M6 X) ?_⟩
 show DF X 67 [I,b] none h k bR
 rw[TX]
 unfold M5
 show a7 _ _
 refine cx @aiN ⟨?_⟩
 exact a
theorem ari(aA:d7 X){I b:Nat}{B at_:Int}{dD d2:U H}{bR:Bool->U an->Nat->Prop}(aS:(y X).bj<=I)(ns:(y X).bj<=b)(G1:I≠b)(O0:I<k)(BM:b<k)(jb:ab X h I=some (.cells dD 1 .own))(tG:ab X h b=some (.cells d2 2 .own))
 (a:∀V aY,k<=aY->ao X V (.ptr I 0)=some .cI->cL X V 2 (.ptr b 0)=some (.agg [.int .i64 B, .int .i64 at_])->(∀j,j<k->j≠I->j≠b->ab X V j=ab X h j)->bR true V aY):yD X (.func 67) ([]++[.ptr I 0, .ptr b 0]) (some (w1 B at_)) h k bR:=by
 refine⟨aA.none _ _ rfl,UK,VN (M6 X) ?_⟩
 show DF X 67 [.ptr I 0, .ptr b 0] (some (w1 B at_)) h k bR
 rw[TX]
 unfold M5
 show a7 _ _
 have agU:Js 26 (.agg [.int .i64 0, .int .i64 0]) true (w1 B at_)=some (.tuple [.agg [.int .i64 B, .int .i64 at_], .bool true]):=sh _ _ _
 have Rf:∀(J:dw) (n:Nat),(Ry J).g n=J.g n:=λ_ _=>rfl
 refine e8 @aiK @agU @Rf ⟨?_⟩
 generalize f9:bm X _ k _=bb
 have b9:ab X bb k=some (.cells (U.ofList [.int .i64 B, .int .i64 at_] 0 .nil) 2 .own):=by rw[<-f9,bq Zo];rfl
 have M:∀j,j<k->ab X bb j=ab X h j:=λj T=>by rw[<-f9];simp(disch:=omega) only[aK]
 rw[<-M I O0]at jb
 rw[<-M b BM]at tG
 clear f9
 refine dc (bW b9) @Rf ⟨?_⟩
 refine jH (by simp[H.same,p0,qL]) ?_
 generalize dI:bm X bb I _=aV
 have b3:ab X aV I=some (.cells (d0 dD 0 [.cI]) 1 .own):=by rw[<-dI,bq aS];rfl
 have R:∀j,j≠I->ab X aV j=ab X bb j:=λj T=>by rw[<-dI,aK aS T]
 rw[<-R b Zo]at tG
 clear dI
 refine tF @Rf ⟨?_⟩
 refine fH (iO (B:=2) (b:=b) (W:=0) (n:=2) tG ns rfl Zd Zd rfl) ?_
 show bR true _ _
 refine a _ _ Zo ?_ ?_ (λj T anF f7=> ?_)
 ·rw[bW (by rw[aK ns G1];exact b3),oy];rfl
 ·rw[pY,bW (bq ns),bW (bq ns),oy,oy];rfl
 ·rw[aK ns f7,R j anF,M j T]
theorem art{aj:bY}{J:dw}{p ar v w:H}(oU:J.a8=[])(R:J.g 2=some p)(au:J.g 3=some ar)(eh:ao X h p=some v)(c5:cL X h 2 ar=some w)(a:aj (.tuple [v,w]) h k):Fh X aj J h k:=by
 unfold Fh
 rw[oU]
 show am (J.g 2) (λp=>D (oH X h 23 p) λv=>am (J.g 3) λp=>D (oH X h 26 p) λw=>aj (.tuple [v,w]) h k)
 rw[R,au]
 refine nE ?_
 rw[QI,eh]
 refine nF ?_
 refine nE ?_
 rw[QJ,c5]
 exact nF a
theorem aru{aj:bY}{J:dw}{p ar v w I b:H}(aA:d7 X)(oU:J.a8=[⟨.fn (.func 67) [I,b],[]⟩])(R:J.g 2=some p)(au:J.g 3=some ar)(eh:ao X h p=some v)(c5:cL X h 2 ar=some w)(a:aj (.tuple [v,w]) h k):Fh X aj J h k:=by
 unfold Fh
 rw[oU]
 show yD X (.func 67) ([]++[I,b]) none h k λ_ h k=>ol X [.cell 2 23, .cell 3 26] aj J [] h k
 refine arh aA ?_
 show am (J.g 2) (λp=>D (oH X h 23 p) λv=>am (J.g 3) λp=>D (oH X h 26 p) λw=>aj (.tuple [v,w]) h k)
 rw[R,au]
 refine nE ?_
 rw[QI,eh]
 refine nF ?_
 refine nE ?_
 rw[QJ,c5]
 exact nF a
theorem abk{aj aw:bY}{J:dw}{I b:Nat}{B at_:Int}{dD d2:U H}(aA:d7 X)(oU:J.a8=[⟨.fn (.func 67) [.ptr I 0, .ptr b 0],[]⟩])(R:J.g 2=some (.ptr I 0))(au:J.g 3=some (.ptr b 0))
 (aS:(y X).bj<=I)(ns:(y X).bj<=b)(G1:I≠b)(O0:I<k)(BM:b<k)(jb:ab X h I=some (.cells dD 1 .own))(tG:ab X h b=some (.cells d2 2 .own))
 (a:∀V aY,k<=aY->(∀j,j<k->j≠I->j≠b->ab X V j=ab X h j)->aj (.tuple [.cI, .agg [.int .i64 B, .int .i64 at_]]) V aY):Is X aj aw J (w1 B at_) h k:=by
 unfold Is
 rw[oU]
 show yD X (.func 67) ([]++[.ptr I 0, .ptr b 0]) (some (w1 B at_)) h k λb h k=>bC b (ol X [.cell 2 23, .cell 3 26] aj J [] h k) _
 refine ari aA aS ns G1 O0 BM jb tG (λV aY fX eh c5 aP=> ?_)
 show am (J.g 2) (λp=>D (oH X V 23 p) λv=>am (J.g 3) λp=>D (oH X V 26 p) λw=>aj (.tuple [v,w]) V aY)
 rw[R,au]
 refine nE ?_
 rw[QI,eh]
 refine nF ?_
 refine nE ?_
 rw[QJ,c5]
 exact nF (a V aY fX aP)
theorem ahX{fn:Fn}{first cap wO:List H}{J:dw}{aj:dw->Prop}(a:aj (AN J ⟨.fn fn cap,first++wO⟩)):JF (.func fn first cap) wO J aj:=a
def AJ(s:a1)(n:Nat):Option (Except (Int×Int) (List Go.bh.Node)):=match r0 s (s.length+1) [] (nh s s.length 0)with
 |none=>none
 |some (.error I)=>some (.error (20,I))
 |some (.ok aR)=>match nodes n [] aR with
  |none=>none
  |some (.error I)=>some (.error (21,I))
  |some (.ok (aC,_))=>match rM aC with
   |some (B,I)=>some (.error (B,I))
   |none=>some (.ok aC)
def Sq(X:cD)(k:Nat)(r:Except (Int×Int) (List Go.bh.Node))(ad:H)(V:U an)(av:Nat):Prop:=match r with
 | .error (B,I)=>ad= .tuple [.cI, .agg [.int .i64 B, .int .i64 I]]
 | .ok aC=>∃v,ad= .tuple [v, .agg [.int .i64 0, .int .i64 0]]/\sc X V (ef k av) aC v
theorem F8(s:a1):∀(n i:Nat),i<=s.length->nh s n i<=s.length:=by
 intro n
 induction n with
 |zero=>intro i a;exact a
 |succ n ah=>
  intro i a
  rw[nh]
  split
  ·exact a
  ·rename_i c ay
   have ag:=(Zc.1 ay).1
   split
   ·exact ah _ Zo
   ·split
    ·have:=C4 (λc=>decide (c≠10)) (s.drop i)
     rw[Yx]at this
     exact ah _ Zo
    ·exact a
theorem ack(s:a1):∀(n:Nat) (aR:List Tok) (i:Nat) (pg:List Tok),aR.length<=i->i<=s.length->r0 s n aR i=some (.ok pg)->pg.length<=s.length+1:=by
 intro n
 induction n with
 |zero=>intro aR i pg _ _ a;cases a
 |succ n ah=>
  intro aR i pg M R a
  rw[r0]at a
  split at a
  ·split at a
   ·cases a
   ·rename_i x ag
    obtain⟨bN,cg⟩:=R2 ag
    have cH:=Nu s s.length (i+x.text.length)
    exact ah _ _ _ (by simp;omega) (F8 s _ _ cg) a
  ·cases a
   simp;omega
theorem aqy(aA:iD X)(eJ:FG X)(gz:vg X){s:a1}{n:Nat}(pJ:n<=170000)(aH:s.length<=65536)(ai:∀c∈s,c<256)(aS:(y X).bj<=k){a0:H}(aE:eF a0=some (.int .i64 (s.length:Int)))(BP:∀V aY,bB X h k V aY->yB X V a0=some (.str s))
 {r:Except (Int×Int) (List Go.bh.Node)}(S:AJ s n=some r):
 a6 X 15 [a0] h k (λad V av=>Sq X k r ad V av/\bB X h k V av) (λ_ _ _=>False):=by
 refine Jz (adN X) (aA.none _ _ rfl) ?_
 rw[adO]
 unfold SP
 refine c0 ⟨?_⟩
 refine eZ (λbb=>ab X bb k=some (.cells (U.ofList [.cI] 0 .nil) 1 .own)/\ab X bb (k+1)=some (.cells (U.ofList [.int .i64 0, .int .i64 0] 0 .nil) 2 .own)/\bB X h k bb (k+1+1)) ⟨by simp(disch:=omega) only[aK,bq]<;>rfl,by rw[bq Zo];rfl,dR⟩ ?_
 rintro bb ⟨b9,b3,b8⟩
 unfold AJ at S
 obtain⟨ID,HD⟩:∃ID,r0 s (s.length+1) [] (nh s s.length 0)=some ID:=by
  cases a:r0 s (s.length+1) [] (nh s s.length 0)with
  |none=>rw[a]at S;cases S
  |some ID=>exact⟨ID,rfl⟩
 rw[HD]at S
 refine(agH aA eJ aH ai Zo aE (λV aY a=>BP V aY (b8.trans a)) HD).Zm ?_
 rintro ad aV bp ⟨Af,ct⟩
 have gZ:=ct.le
 have g3:ab X aV k=some (.cells (U.ofList [.cI] 0 .nil) 1 .own):=by rw[ct.af _ Zo];exact b9
 have ec:ab X aV (k+1)=some (.cells (U.ofList [.int .i64 0, .int .i64 0] 0 .nil) 2 .own):=by rw[ct.af _ Zo];exact b3
 have lX:=b8.trans ct
 clear b9 b3
 cases ID with
 |error I=>
  simp only[Ze]at S
  subst S
  simp only[T9]at Af
  subst Af
  have NM:decide ((20:Int)≠0)=true:=rfl
  refine cx @NM ⟨?_⟩
  generalize hI:bm X aV (k+1) _=bo
  have g5:ab X bo (k+1)=some (.cells (U.ofList [.int .i64 20, .int .i64 I] 0 .nil) 2 .own):=by rw[<-hI,bq Zo];rfl
  have au:∀j,j≠k+1->ab X bo j=ab X aV j:=λj T=>by rw[<-hI,aK Zo T]
  rw[<-au _ Zo]at g3
  have cE:bB X h k bo bp:=⟨Zo,λj T=>by rw[au j Zo];exact lX.af j T⟩
  clear hI au ec
  refine fH (iO (B:=1) (b:=k) (W:=0) (n:=1) g3 aS rfl Zd Zd rfl) ?_
  generalize hw:bm X bo k _=bX
  have g6:ab X bX k=some (.cells (d0 (U.ofList [.cI] 0 .nil) 0 [.cI]) 1 .own):=by rw[<-hw,bq aS];rfl
  have aM:∀j,j≠k->ab X bX j=ab X bo j:=λj T=>by rw[<-hw,aK aS T]
  rw[<-aM _ Zo]at g5
  have dN:bB X h k bX bp:=⟨Zo,λj T=>by rw[aM j Zo];exact cE.af j T⟩
  clear hw aM g3 cE
  refine tF (bW g5) ⟨?_⟩
  refine jH (by simp[H.same,p0,qL]) ?_
  refine fH (iO (B:=2) (b:=k+1) (W:=0) (n:=2) g5 Zo rfl Zd Zd rfl) ?_
  refine art (v:= .cI) (w:= .agg [.int .i64 20, .int .i64 I]) rfl (gL) (gL) ?_ ?_ ⟨rfl,bB.set dN Zo aS Zo⟩
  ·rw[bW (by rw[aK Zo Zo];exact g6),oy];rfl
  ·rw[pY,bW (bq Zo),bW (bq Zo),oy,oy];rfl
 |ok aR=>
  obtain⟨ap,bE,rfl,dp,auo,aup⟩:=Af
  simp only[]at S
  have NM:decide ((0:Int)≠0)=false:=rfl
  refine cx @NM ⟨?_⟩
  generalize hI:bm X aV (k+1) _=bo
  have g5:ab X bo (k+1)=some (.cells (U.ofList [.int .i64 0, .int .i64 0] 0 .nil) 2 .own):=by rw[<-hI,bq Zo];rfl
  have au:∀j,j≠k+1->ab X bo j=ab X aV j:=λj T=>by rw[<-hI,aK Zo T]
  rw[<-au _ Zo]at g3
  have cE:bB X h k bo bp:=⟨Zo,λj T=>by rw[au j Zo];exact lX.af j T⟩
  have amU:=dp.af (V:=bo) (λj T=>by subst T;exact au j Zo)
  clear hI au ec
  refine ahX ?_
  obtain⟨bF,cB,fh⟩:=lo dp.len
  refine c0 ⟨?_⟩
  have qm:ey [.aU, .int .i64 0] [(0,1,ap)]=some (.agg [ap, .int .i64 0]):=by
   simp[ey,pr,ps,bF,lu]
  refine fH qm ?_
  refine c0 ⟨?_⟩
  generalize oS:AN _ _=Df
  have k0:Df.a8=[⟨.fn (.func 67) [.ptr k 0, .ptr (k+1) 0],[]⟩]:=by rw[<-oS];rfl
  have eX:Df.g 2=some (.ptr k 0):=by rw[<-oS];rfl
  have t3:Df.g 3=some (.ptr (k+1) 0):=by rw[<-oS];rfl
  have Va:∀l,l9 2 l=false->(hG l Df).g 2=some (.ptr k 0):=λl a=>by simp[rb,eX,a]
  have Vb:∀l,l9 3 l=false->(hG l Df).g 3=some (.ptr (k+1) 0):=λl a=>by simp[rb,t3,a]
  have U5:∀l,(hG l Df).a8=[⟨.fn (.func 67) [.ptr k 0, .ptr (k+1) 0],[]⟩]:=λl=>k0
  clear oS
  refine eZ (λbX=>ab X bX bp=some (.cells (U.ofList [ap, .int .i64 ((0:Nat):Int)] 0 .nil) 2 .own)/\bB X bo bp bX (bp+1)) ⟨by rw[bq Zo];rfl,dR⟩ ?_
  rintro bX ⟨g6,xc⟩
  have fj:=ack s _ _ _ _ Zs (F8 s _ _ Zo) HD
  have amB:bh X bX bp bE aR 0:=⟨⟨_,ap,g6,rfl,rfl,amU.af λj T=>by subst T;exact xc.af j Zo⟩,Zo⟩
  have amE:ib X bX (bp+1) bp bE aR 0:=⟨Zo,Zo,Zo,Zo,Zo,amB⟩
  obtain⟨IB,Ab⟩:∃IB,nodes n [] aR=some IB:=by
   cases a:nodes n [] aR with
   |none=>rw[a]at S;cases S
   |some IB=>exact⟨IB,rfl⟩
  rw[Ab]at S
  have cb:ab X bX k=some (.cells (U.ofList [.cI] 0 .nil) 1 .own):=by rw[xc.af _ Zo];exact g3
  have b1:ab X bX (k+1)=some (.cells (U.ofList [.int .i64 0, .int .i64 0] 0 .nil) 2 .own):=by rw[xc.af _ Zo];exact g5
  refine(aqT aA.tod7 gz pJ Zo amE (r:=IB) Ab).mono ?_ ?_
  ·rintro v b4 cA ⟨aC,i5,rfl,y9,_,dO⟩
   have iW:=dO.le
   simp only[]at S
   have dT:ab X b4 k=some (.cells (U.ofList [.cI] 0 .nil) 1 .own):=by rw[dO.af _ Zo (by simp;omega)];exact cb
   have fc:ab X b4 (k+1)=some (.cells (U.ofList [.int .i64 0, .int .i64 0] 0 .nil) 2 .own):=by rw[dO.af _ Zo (by simp;omega)];exact b1
   have Xw:∀j,j<k->ab X b4 j=ab X h j:=λj T=>by rw[dO.af j Zo (by simp;omega),xc.af j Zo];exact cE.af j T
   obtain⟨wR,_,_,_,rfl,WK,_⟩:=id y9
   have auq:=WK.1
   have aur:=WK.2
   refine tF @eX ⟨?_⟩
   refine fH (iO (B:=1) (b:=k) (W:=0) (n:=1) dT aS rfl Zd Zd rfl) ?_
   generalize hJ:bm X b4 k _=ck
   have g7:ab X ck k=some (.cells (d0 (U.ofList [.cI] 0 .nil) 0 [.ptr wR 0]) 1 .own):=by rw[<-hJ,bq aS];rfl
   have cr:∀j,j≠k->ab X ck j=ab X b4 j:=λj T=>by rw[<-hJ,aK aS T]
   clear hJ
   have kX:ao X ck (.ptr k 0)=some (.ptr wR 0):=by rw[bW g7,oy];rfl
   refine tF @eX ⟨?_⟩
   refine tF @kX ⟨?_⟩
   have amF:=y9.af (V:=ck) (bR:=ef (bp+1) cA) (λj T=>cr j (by have:=T.1;omega)) (λ_ a=>a)
   have lH:ab X ck (k+1)=some (.cells (U.ofList [.int .i64 0, .int .i64 0] 0 .nil) 2 .own):=by rw[cr _ Zo];exact fc
   refine(ao1 (k:=cA) (h:=ck) aA.tod7 Zo amF (λj T=>T.2)).mono ?_ ?_
   ·rintro IS cC ew ⟨qv,rfl,e9⟩
    have oX:=e9.le
    rw[qv]at S
    simp only[Ze]at S
    subst S
    have g8:ab X cC k=some (.cells (d0 (U.ofList [.cI] 0 .nil) 0 [.ptr wR 0]) 1 .own):=by rw[e9.af _ Zo];exact g7
    have AO:ab X cC (k+1)=some (.cells (U.ofList [.int .i64 0, .int .i64 0] 0 .nil) 2 .own):=by rw[e9.af _ Zo];exact lH
    have lF:ao X cC (.ptr k 0)=some (.ptr wR 0):=by rw[bW g8,oy];rfl
    refine tF @eX ⟨?_⟩
    refine tF @lF ⟨?_⟩
    refine hH ⟨?_⟩
    refine tF @eX ⟨?_⟩
    refine fH (iO (B:=1) (b:=k) (W:=0) (n:=1) g8 aS rfl Zd Zd rfl) ?_
    generalize tP:bm X cC k _=dQ
    have jv:ab X dQ k=some (.cells (d0 (d0 (U.ofList [.cI] 0 .nil) 0 [.ptr wR 0]) 0 [.ptr wR 0]) 1 .own):=by rw[<-tP,bq aS];rfl
    have fC:∀j,j≠k->ab X dQ j=ab X cC j:=λj T=>by rw[<-tP,aK aS T]
    rw[<-fC _ Zo]at AO
    clear tP
    refine tF @t3 ⟨?_⟩
    refine fH (iO (B:=2) (b:=k+1) (W:=0) (n:=2) AO Zo rfl Zd Zd rfl) ?_
    have pF:∀cJ j,j≠k->j≠k+1->j<cA->ab X (bm X dQ (k+1) cJ) j=ab X b4 j:=λcJ j M R au=>by
     rw[aK Zo R,fC j M,e9.af j au,cr j M]
    refine aru (v:= .ptr wR 0) (w:= .agg [.int .i64 0, .int .i64 0]) aA.tod7 k0 eX t3 ?_ ?_ ⟨⟨.ptr wR 0,rfl,y9.af (λj T=>pF _ j (by have:=T.1;omega) (by have:=T.1;omega) T.2) (λj T=>⟨by have:=T.1;omega,by have:=T.2;omega⟩)⟩,⟨Zo,λj T=>by rw[pF _ j Zo Zo Zo];exact Xw j T⟩⟩
    ·rw[bW (by rw[aK Zo Zo];exact jv),oy];rfl
    ·rw[pY,bW (bq Zo),bW (bq Zo),oy,oy];rfl
   ·rintro ad cC ew ⟨B,I,qv,rfl,e9⟩
    have oX:=e9.le
    rw[qv]at S
    simp only[Ze]at S
    subst S
    refine abk (dD:=d0 (U.ofList [.cI] 0 .nil) 0 [.ptr wR 0]) (d2:=U.ofList [.int .i64 0, .int .i64 0] 0 .nil) aA.tod7 (U5 _) (Va _ rfl) (Vb _ rfl) aS Zo Zo Zo Zo ?_ ?_ (λV aY fX aP=>⟨rfl,Zo,λj T=> ?_⟩)
    ·rw[e9.af _ Zo];exact g7
    ·rw[e9.af _ Zo];exact lH
    ·rw[aP j Zo Zo Zo,e9.af j Zo,cr j Zo];exact Xw j T
  ·rintro ad b4 cA ⟨I,rfl,rfl,dO⟩
   have iW:=dO.le
   simp only[Ze]at S
   subst S
   refine abk (dD:=U.ofList [.cI] 0 .nil) (d2:=U.ofList [.int .i64 0, .int .i64 0] 0 .nil) aA.tod7 (U5 _) (Va _ rfl) (Vb _ rfl) aS Zo Zo Zo Zo ?_ ?_ (λV aY fX aP=>⟨rfl,Zo,λj T=> ?_⟩)
   ·rw[dO.af _ Zo (by simp;omega)];exact cb
   ·rw[dO.af _ Zo (by simp;omega)];exact b1
   ·rw[aP j Zo Zo Zo,dO.af j Zo (by simp;omega),xc.af j Zo];exact cE.af j T
end
end
end Go.Proofs.YtpfajohmofnkfaaGreatDoor

namespace Go.bh
def gW:List Tok->Prop
 |[]=>False
 |x::l=>x.kind=7/\x.text=[]\/gW l
theorem gW.ov{x:Tok}{l:List Tok}(a:gW (x::l))(ag:x.kind≠7):gW l:=a.resolve_left λB=>ag B.1
def dV{α:Type}(b:Nat)(bR:α->Prop)(x:fR α):Prop:=∃r,x=some r/\∀I cd,r= .ok (I,cd)->gW cd/\cd.length<b/\bR I
def pk(E:bM):Prop:=E.kind=4->E.args≠[]
theorem dV.mono{α:Type}{b ea:Nat}{bR qe:α->Prop}{x:fR α}(a:dV b bR x)(ai:b<=ea)(cf:∀I,bR I->qe I):dV ea qe x:=by
 obtain⟨r,M,R⟩:=a
 exact⟨r,M,λI cd E=>by obtain⟨bN,cg,cH⟩:=R I cd E;exact⟨bN,Zo,cf I cH⟩⟩
theorem dV.ok{α:Type}{b:Nat}{bR:α->Prop}{I:α}{l:List Tok}(M:gW l)(R:l.length<b)(au:bR I):dV b bR (bh.ok I l):=⟨_,rfl,λf2 cd E=>by cases E;exact⟨M,R,au⟩⟩
theorem dV.bad{α:Type}{b:Nat}{bR:α->Prop}(I:Int):dV b bR (bh.bad I:fR α):=⟨_,rfl,λf2 cd E=>by cases E⟩
theorem dV.andThen{α er:Type}{b ea:Nat}{bR:α->Prop}{qe:er->Prop}{x:fR α}{f:α->List Tok->fR er}(a:dV b bR x)(B:∀I cd,gW cd->cd.length<b->bR I->dV ea qe (f I cd)):dV ea qe (bh.andThen x f):=by
 obtain⟨r,rfl,R⟩:=a
 cases r with
 |error I=>exact⟨_,rfl,λf2 cd E=>by cases E⟩
 |ok p=>
  obtain⟨I,cd⟩:=p
  obtain⟨bN,cg,cH⟩:=R I cd rfl
  exact B I cd bN cg cH
theorem Rv{x:Tok}{s:a1}(a:hA x s=true):x.kind≠7:=by
 intro E;simp[hA,E]at a
theorem m8{s:a1}{l:List Tok}(a:gW l):dV l.length (λ_=>True) (ei s l):=by
 cases l with
 |nil=>exact a.elim
 |cons x l=>
  simp only[ei]
  split
  ·rename_i aH;exact dV.ok (a.ov (Rv aH)) Zs trivial
  ·exact dV.bad _
theorem uq{B:Int}(aP:B≠7){l:List Tok}(a:gW l):dV l.length (λx:Tok=>True) (io B l):=by
 cases l with
 |nil=>exact a.elim
 |cons x l=>
  simp only[io]
  split
  ·rename_i aH;exact dV.ok (a.ov Zo) Zs trivial
  ·exact dV.bad _
theorem pe{er:Type}{s:a1}{l:List Tok}{f:Option Tok->List Tok->fR er}{b:Nat}{bR:er->Prop}(a:gW l)(M:∀x cd,gW cd->cd.length+1=l.length->dV b bR (f (some x) cd))(R:dV b bR (f none l)):dV b bR (hZ s l f):=by
 cases l with
 |nil=>exact a.elim
 |cons x l=>
  unfold hZ lw
  by_cases aH:hA x s=true
  ·simp only[aH,ZB];exact M x l (a.ov (Rv aH)) Zs
  ·simp only[aH,Zx];exact R
theorem UG{l:List Tok}(a:gW l):∀os:List (a1×Int),∃E cd,nS os l=some (E,cd)/\(E=none/\cd=l\/∃x,E=some x/\gW cd/\cd.length+1=l.length):=by
 cases l with
 |nil=>exact a.elim
 |cons x l=>
  intro os
  induction os with
  |nil=>exact⟨_,_,rfl, .inl ⟨rfl,rfl⟩⟩
  |cons W os ah=>
   obtain⟨s,B⟩:=W
   unfold nS lw
   by_cases aH:hA x s=true
   ·simp only[aH,ZB];exact⟨_,_,rfl, .inr ⟨_,rfl,a.ov (Rv aH),Zs⟩⟩
   ·simp only[aH,Zx]
    exact ah
structure acR(n:Nat):Prop where
 level:∀B l,B<=5->gW l->13*l.length+9-B<=n->dV l.length pk (level n B l)
 oc:∀B E l,B<=4->gW l->pk E->13*l.length+1<=n->dV (l.length+1) pk (oc n B E l)
 shift:∀l,gW l->13*l.length+3<=n->dV l.length pk (shift n l)
 oq:∀E l,gW l->pk E->13*l.length+1<=n->dV (l.length+1) pk (oq n E l)
 ot:∀B x E l,B≠4->gW l->13*l.length+1<=n->dV l.length pk (ot n B x E l)
 s5:∀l,gW l->13*l.length+2<=n->dV l.length pk (wn n l)
 mK:∀E l,gW l->pk E->13*l.length+1<=n->dV (l.length+1) pk (mK n E l)
 part:∀l,gW l->13*l.length+1<=n->dV l.length pk (part n l)
 list:∀l,gW l->13*l.length+12<=n->dV l.length (λ_=>True) (list n l)
 od:∀cm l,gW l->13*l.length+1<=n->dV l.length (λ_=>True) (od n cm l)
 lh:∀l,gW l->13*l.length+10<=n->dV l.length pk (lh n l)
 arrow:∀l,gW l->13*l.length+11<=n->dV l.length pk (arrow n l)
theorem te{E:bM}(a:E.kind≠4):pk E:=λB=>absurd B a
theorem Sd{E:bM}(a:E.args≠[]):pk E:=λ_=>a
theorem gW.pos{l:List Tok}(a:gW l):0<l.length:=by cases l with
 |nil=>exact a.elim
 |cons x l=>simp
theorem agE:∀n,acR n:=by
 intro n
 induction n with
 |zero=>constructor<;>(intros;rename_i a _ _;omega)
 |succ n ah=>
  constructor
  case level=>
   intro B l aP aE aS
   have:=aE.pos
   rw[level]
   split
   ·exact ah.shift l aE Zo
   ·refine(ah.level (B+1) l Zo aE Zo).andThen λE cd M R au=> ?_
    exact(ah.oc B E cd Zo M au Zo).mono Zo λ_ a=>a
  case oc=>
   intro B E l aP aE aW aS
   have:=aE.pos
   rw[oc]
   obtain⟨W,cd,M,R⟩:=UG aE (aq B)
   rw[M]
   rcases R with ⟨rfl,rfl⟩|⟨x,rfl,au,aM⟩
   ·exact dV.ok aE Zo aW
   ·simp only[]
    refine(ah.level (B+1) cd Zo au Zo).andThen λr c5 bN cg cH=> ?_
    split
    ·exact dV.ok bN Zo (Sd (by simp[two,bM.args]))
    ·exact(ah.oc B _ c5 aP bN (Sd (by simp[two,bM.args])) Zo).mono Zo λ_ a=>a
  case shift=>
   intro l aE aS
   have:=aE.pos
   rw[shift]
   refine(ah.s5 l aE Zo).andThen λE cd M R au=> ?_
   exact(ah.oq E cd M au Zo).mono Zo λ_ a=>a
  case oq=>
   intro E l aE aW aS
   have:=aE.pos
   rw[oq]
   refine pe aE (λx cd M R=>(ah.ot 19 x E cd Zd M Zo).mono Zo λ_ a=>a) ?_
   refine pe aE (λx cd M R=>(ah.ot 20 x E cd Zd M Zo).mono Zo λ_ a=>a) ?_
   exact dV.ok aE Zo aW
  case ot=>
   intro B x E l aP aE aS
   have:=aE.pos
   rw[ot]
   refine(uq Zd aE).andThen λm cd M R au=> ?_
   split
   ·exact dV.bad _
   ·exact(ah.oq _ cd M (te (by simpa[bM.kind]using aP)) Zo).mono Zo λ_ a=>a
  case s5=>
   intro l aE aS
   have:=aE.pos
   rw[wn]
   obtain⟨W,cd,M,R⟩:=UG aE xX
   rw[M]
   rcases R with ⟨rfl,rfl⟩|⟨x,rfl,au,aM⟩
   ·simp only[]
    refine(ah.part cd aE Zo).andThen λE c5 bN cg cH=> ?_
    exact(ah.mK E c5 bN cH Zo).mono Zo λ_ a=>a
   ·simp only[]
    refine(ah.s5 cd au Zo).andThen λE c5 bN cg cH=> ?_
    exact dV.ok bN Zo (Sd (by simp[bM.args]))
  case mK=>
   intro E l aE aW aS
   have:=aE.pos
   rw[mK]
   refine pe aE (λx cd M R=> ?_) (dV.ok aE Zo aW)
   have:=M.pos
   refine pe M (λj c5 bN cg=> ?_) ?_
   ·refine(uq Zd bN).andThen λm eN ee fz ki=> ?_
    exact(ah.mK _ eN ee (te (by simp[bM.kind])) Zo).mono Zo λ_ a=>a
   ·refine(uq Zd M).andThen λm eN ee fz ki=> ?_
    exact(ah.mK _ eN ee (te (by simp[bM.kind])) Zo).mono Zo λ_ a=>a
  case list=>
   intro l aE aS
   have:=aE.pos
   rw[list]
   refine pe aE (λx cd M R=>dV.ok M Zo trivial) ?_
   refine(ah.arrow l aE Zo).andThen λE c5 bN cg cH=> ?_
   exact(ah.od _ c5 bN Zo).mono Zo λ_ a=>a
  case od=>
   intro cm l aE aS
   have:=aE.pos
   rw[od]
   refine pe aE (λx cd M R=> ?_) ?_
   ·refine(ah.arrow cd M Zo).andThen λE c5 bN cg cH=> ?_
    exact(ah.od _ c5 bN Zo).mono Zo λ_ a=>a
   ·exact(m8 aE).andThen λ_ cd M R _=>dV.ok M Zo trivial
  case lh=>
   intro l aE aS
   have:=aE.pos
   rw[lh]
   refine(ah.level 0 l Zo aE Zo).andThen λE c5 bN cg cH=> ?_
   refine pe bN (λx cd M R=> ?_) (dV.ok bN Zo cH)
   have y3:sZ E≠none:=by
    unfold sZ
    split
    ·simp
    ·split
     ·rename_i aM
      have:=cH aM
      cases aG:E.args with
      |nil=>exact absurd aG this
      |cons I l=>simp
     ·simp
   simp only[]
   split
   ·rename_i a;exact absurd a y3
   ·refine(ah.lh cd M Zo).andThen λr eN ee fz ki=> ?_
    exact dV.ok ee Zo (te (by simp[bM.kind]))
   ·exact dV.bad _
  case arrow=>
   intro l aE aS
   have:=aE.pos
   rw[arrow]
   refine(ah.lh l aE Zo).andThen λE c5 bN cg cH=> ?_
   refine pe bN (λx cd M R=> ?_) (dV.ok bN Zo cH)
   refine(ah.arrow cd M Zo).andThen λr eN ee fz ki=> ?_
   exact dV.ok ee Zo (te (by simp[bM.kind]))
  case part=>
   intro l aE aS
   cases l with
   |nil=>exact aE.elim
   |cons x l=>
   simp only[ZC]at aS
   rw[part]
   have fj:(x::l).length=l.length+1:=rfl
   rw[fj]
   by_cases ky:x.kind=5
   ·rw[Zr ky]
    exact dV.ok (aE.ov Zo) Zo (te (by simp[bM.kind]))
   rw[Zg ky]
   split
   ·rename_i a
    have:x.kind=2:=by simp at a;exact a.1
    exact dV.ok (aE.ov Zo) Zo (te (by simp[bM.kind]))
   by_cases dD:x.kind=1
   ·rw[Zr dD]
    have gY:=aE.ov Zo
    refine pe gY (λj c5 M R=> ?_) (dV.ok gY Zo (te (by simp[bM.kind])))
    refine(ah.list c5 M Zo).andThen λcm eN ee fz ki=> ?_
    exact dV.ok ee Zo (te (by simp[bM.kind]))
   rw[Zg dD]
   by_cases gQ:x.kind=3
   ·rw[Zr gQ]
    have gY:=aE.ov Zo
    refine(m8 gY).andThen λ_ c5 M R _=> ?_
    refine(ah.arrow c5 M Zo).andThen λE eN ee fz ki=> ?_
    refine(m8 ee).andThen λ_ gE fe hg _=> ?_
    exact dV.ok fe Zo (te (by simp[bM.kind]))
   rw[Zg gQ]
   split
   ·rename_i a
    have:x.kind=6:=by simp at a;exact a.1
    have gY:=aE.ov Zo
    refine(ah.arrow l gY Zo).andThen λE eN ee fz ki=> ?_
    refine(m8 ee).andThen λ_ gE fe hg _=> ?_
    exact dV.ok fe Zo ki
   split
   ·rename_i a
    have:x.kind=2:=by simp at a;exact a.1
    have gY:=aE.ov Zo
    refine(ah.arrow l gY Zo).andThen λE eN ee fz ki=> ?_
    refine(m8 ee).andThen λ_ gE fe hg _=> ?_
    refine(ah.arrow gE fe Zo).andThen λcB gs cb b1 dT=> ?_
    refine(m8 cb).andThen λ_ kX eH fk _=> ?_
    refine(ah.arrow kX eH Zo).andThen λfh lF iN kZ Fk=> ?_
    exact dV.ok iN Zo (te (by simp[bM.kind]))
   split
   ·rename_i a
    have:x.kind=2:=by simp at a;exact a.1
    have gY:=aE.ov Zo
    refine(uq Zd gY).andThen λc c5 M R _=> ?_
    refine(ah.part c5 M Zo).andThen λE eN ee fz ki=> ?_
    refine(ah.part eN ee Zo).andThen λcB gE fe hg wl=> ?_
    exact dV.ok fe Zo (te (by simp[bM.kind]))
   ·exact dV.bad _
theorem aaT:∀(n:Nat) (cm l:List Tok),gW l->l.length<=n->dV l.length (λ_=>True) (qG n cm l):=by
 intro n
 induction n with
 |zero=>intro cm l a aS;have:=a.pos;omega
 |succ n ah=>
  intro cm l a aS
  rw[qG]
  refine(uq Zd a).andThen λx c5 M R _=> ?_
  refine pe M (λj eN bN cg=>(ah _ eN bN Zo).mono Zo λ_ a=>a) (dV.ok M Zo trivial)
theorem ahT{w:Option Tok}{l:List Tok}(a:gW l):dV (l.length+1) (λ_=>True) (yC w l):=by
 cases w with
 |none=>exact dV.ok a Zo trivial
 |some w=>
  simp only[yC]
  refine pe a (λj c5 bN cg=> ?_) ?_
  ·exact(uq Zd bN).andThen λx eN ee fz _=>dV.ok ee Zo trivial
  ·exact(uq Zd a).andThen λx eN ee fz _=>dV.ok ee Zo trivial
theorem NO:∀(n:Nat) (loc:Bool) (ds:List el) (l:List Tok),gW l->l.length+1<=n->dV l.length (λ_=>True) (iG n loc ds l):=by
 intro n
 induction n with
 |zero=>intro loc ds l a aS;omega
 |succ n ah=>
  intro loc ds l a aS
  rw[iG]
  refine(aaT n [] l a Zo).andThen λch c5 M R _=> ?_
  unfold Bp
  refine(m8 M).andThen λ_ eN bN cg _=> ?_
  refine(uq Zd bN).andThen λt gE ee fz _=> ?_
  have fin:∀w gs,gW gs->gs.length<=gE.length->dV l.length (λ_=>True) (andThen (yC w gs) λr l=>wV loc (iG n loc) (ds++ch.map (oO t.ty r.1 r.2.1 r.2.2)) l):=by
   intro w gs fe hg
   refine(ahT fe).andThen λr kX cb b1 _=> ?_
   unfold wV
   cases kX with
   |nil=>exact cb.elim
   |cons j lF=>
    simp only[ya,ZC]at b1 ⊢
    split
    ·rename_i aH
     have dT:gW lF:=cb.resolve_left λB=>by rw[B.2]at aH;cases aH
     split
     ·cases lF with
      |nil=>exact dT.elim
      |cons bl nA=>
       simp only[ya]
       split
       ·exact dV.ok cb (by simp at b1 ⊢;omega) trivial
       ·exact(ah _ _ (bl::nA) dT (by simp at b1 ⊢;omega)).mono (by simp at b1 ⊢;omega) λ_ a=>a
     ·exact(ah _ _ lF dT Zo).mono Zo λ_ a=>a
    ·exact dV.ok cb (by simp;omega) trivial
  refine pe ee (λj gs fe hg=>fin _ gs fe Zo) (fin _ gE ee Zo)
theorem aiL{n:Nat}{l:List Tok}(a:gW l)(aS:13*l.length+12<=n):dV l.length (λ_=>True) (tz n l):=by
 unfold tz
 have fin:∀(x:fR (List Tok)),dV (l.length+1) (λ_=>True) x->dV l.length (λ_=>True) (andThen x λch l=>andThen (ei [61] l) λE l=>andThen (arrow n l) λr l=>andThen (ei [59] l) λ_ l=>ok (⟨ch.map Tok.text,ch.map Tok.at_,E.at_,r⟩:fg) l):=by
  intro x ag
  refine ag.andThen λch c5 M R _=> ?_
  refine(m8 M).andThen λ_ eN bN cg _=> ?_
  refine((agE n).arrow eN bN Zo).andThen λE gE ee fz _=> ?_
  exact(m8 ee).andThen λ_ gs fe hg _=>dV.ok fe Zo trivial
 refine pe a (λj c5 M R=>fin _ ?_) (fin _ ?_)
 ·refine(uq Zd M).andThen λx eN bN cg _=> ?_
  refine(m8 bN).andThen λ_ gE ee fz _=> ?_
  refine(aaT n _ gE ee Zo).andThen λch gs fe hg _=> ?_
  exact(m8 fe).andThen λ_ kX cb b1 _=>dV.ok cb Zo trivial
 ·exact(uq Zd a).andThen λx eN bN cg _=>dV.ok bN Zo trivial
theorem aiQ:∀(n:Nat) (de:List fg) (l:List Tok),gW l->13*l.length+13<=n->dV l.length (λ_=>True) (lf n de l):=by
 intro n
 induction n with
 |zero=>intro de l a aS;omega
 |succ n ah=>
  intro de l a aS
  rw[lf]
  refine pe a (λj c5 M R=>dV.ok M Zo trivial) ?_
  refine(aiL a Zo).andThen λar c5 M R _=> ?_
  exact(ah _ c5 M Zo).mono Zo λ_ a=>a
theorem apQ{n:Nat}{l:List Tok}(a:gW l)(aS:13*l.length+13<=n):dV l.length (λ_=>True) (node n l):=by
 unfold node
 refine(m8 a).andThen λ_ c5 M R _=> ?_
 refine(uq Zd M).andThen λx eN bN cg _=> ?_
 refine(m8 bN).andThen λ_ gE ee fz _=> ?_
 have aja:∀eM out gs,gW gs->gs.length<gE.length->dV l.length (λ_=>True) (hZ [118,97,114] gs λj l=>andThen (match j with
  |some _=>andThen (iG n true [] l) λds l=>andThen (ei [59] l) λ_ l=>ok ds l
  |none=>ok [] l) λloc l=>
  andThen (ei [108,101,116] l) λ_ l=>andThen (lf n [] l) λde l=>ok (⟨x.text,x.at_,eM,out,loc,de⟩:Node) l):=by
  intro eM out gs fe hg
  have VA:∀(bl:fR (List el)),dV (gs.length+1) (λ_=>True) bl->dV l.length (λ_=>True) (andThen bl λloc l=>
   andThen (ei [108,101,116] l) λ_ l=>andThen (lf n [] l) λde l=>ok (⟨x.text,x.at_,eM,out,loc,de⟩:Node) l):=by
   intro bl cj
   refine cj.andThen λloc kX cb b1 _=> ?_
   refine(m8 cb).andThen λ_ lF eH fk _=> ?_
   refine(aiQ n _ lF eH Zo).andThen λde nA iN kZ _=> ?_
   exact dV.ok iN Zo trivial
  refine pe fe (λj kX cb b1=>VA _ ?_) (VA _ (dV.ok fe Zo trivial))
  refine(NO n _ _ kX cb Zo).andThen λds lF eH fk _=> ?_
  exact(m8 eH).andThen λ_ nA iN kZ _=>dV.ok iN Zo trivial
 have Vz:∀(bl:fR (List el)),dV (gE.length+1) (λ_=>True) bl->dV l.length (λ_=>True) (andThen bl λeM l=>
  andThen (ei [114,101,116,117,114,110,115] l) λ_ l=>andThen (ei [40] l) λ_ l=>andThen (iG n false [] l) λout l=>andThen (ei [41] l) λ_ l=>
  hZ [118,97,114] l λj l=>andThen (match j with
  |some _=>andThen (iG n true [] l) λds l=>andThen (ei [59] l) λ_ l=>ok ds l
  |none=>ok [] l) λloc l=>
  andThen (ei [108,101,116] l) λ_ l=>andThen (lf n [] l) λde l=>ok (⟨x.text,x.at_,eM,out,loc,de⟩:Node) l):=by
  intro bl cj
  refine cj.andThen λeM gs fe hg _=> ?_
  refine(m8 fe).andThen λ_ kX cb b1 _=> ?_
  refine(m8 cb).andThen λ_ lF eH fk _=> ?_
  refine(NO n _ _ lF eH Zo).andThen λout nA iN kZ _=> ?_
  refine(m8 iN).andThen λ_ rJ t1 eX _=> ?_
  exact aja eM out rJ t1 Zo
 refine pe ee (λj gs fe hg=>Vz _ (dV.ok fe Zo trivial)) (Vz _ ?_)
 refine(NO n _ _ gE ee Zo).andThen λds lF eH fk _=> ?_
 exact(m8 eH).andThen λ_ nA iN kZ _=>dV.ok iN Zo trivial
theorem apT:∀(n:Nat) (aC:List Node) (l:List Tok),gW l->13*l.length+14<=n->dV l.length (λ_=>True) (nodes n aC l):=by
 intro n
 induction n with
 |zero=>intro aC l a aS;omega
 |succ n ah=>
  intro aC l a aS
  rw[nodes]
  refine(apQ a Zo).andThen λg c5 M R _=> ?_
  cases c5 with
  |nil=>exact M.elim
  |cons x eN=>
   simp only[]
   split
   ·exact dV.ok M Zo trivial
   ·exact(ah _ _ M Zo).mono Zo λ_ a=>a
end Go.bh

namespace Go.Proofs.YtpfajohmofnkfaaGreatDoor
open Go.al Go.bh
theorem gW.snoc{x:Tok}(M:x.kind=7)(R:x.text=[]):∀l:List Tok,gW (l++[x]):=by
 intro l
 induction l with
 |nil=>exact .inl ⟨M,R⟩
 |cons j l ah=>exact .inr ah
theorem as2(s:a1):∀(n:Nat) (aR:List Tok) (i:Nat),i<=s.length->s.length<i+n->∃r,r0 s n aR i=some r/\∀pg,r= .ok pg->gW pg:=by
 intro n
 induction n with
 |zero=>intro aR i M R;omega
 |succ n ah=>
  intro aR i M R
  rw[r0]
  split
  ·cases ag:ww s i with
   |none=>exact⟨_,rfl,λpg a=>by cases a⟩
   |some x=>
    obtain⟨bN,cg⟩:=R2 ag
    have cH:=Nu s s.length (i+x.text.length)
    exact ah _ _ (F8 s _ _ cg) Zo
  ·exact⟨_,rfl,λpg a=>by cases a;exact gW.snoc rfl rfl _⟩
theorem aqw{s:a1}(aH:s.length<=5000):∃r,AJ s 170000=some r:=by
 unfold AJ
 obtain⟨r,M,R⟩:=as2 s (s.length+1) [] (nh s s.length 0) (F8 s _ _ Zo) Zo
 rw[M]
 cases r with
 |error I=>exact⟨_,rfl⟩
 |ok aR=>
  simp only[]
  have fj:=ack s _ _ _ _ Zs (F8 s _ _ Zo) M
  obtain⟨r,au,_⟩:=apT 170000 [] aR (R aR rfl) Zo
  rw[au]
  cases r with
  |error I=>exact⟨_,rfl⟩
  |ok p=>
   obtain⟨aC,l⟩:=p
   simp only[]
   cases rM aC with
   |none=>exact⟨_,rfl⟩
   |some ar=>exact⟨_,rfl⟩
noncomputable def AI(s:a1):Except (Int×Int) (List Go.bh.Node):=match AJ s 170000 with
 |some r=>r
 |none=> .error (0,0)
theorem abn{s:a1}(aH:s.length<=5000):AJ s 170000=some (AI s):=by
 obtain⟨r,a⟩:=aqw aH
 unfold AI
 rw[a]
variable{X:cD}{h:U an}{k:Nat}
theorem aqv(aA:iD X)(eJ:FG X)(gz:vg X){s:a1}(aH:s.length<=5000)(ai:∀c∈s,c<256)(aS:(y X).bj<=k){a0:H}(aE:eF a0=some (.int .i64 (s.length:Int)))(BP:∀V aY,bB X h k V aY->yB X V a0=some (.str s)):
 a6 X 15 [a0] h k (λad V av=>Sq X k (AI s) ad V av/\bB X h k V av) (λ_ _ _=>False):=
 aqy aA eJ gz (Zj _) Zo ai aS aE BP (abn aH)
end Go.Proofs.YtpfajohmofnkfaaGreatDoor

namespace Go.Proofs.YtpfajohmofnkfaaGreatDoor
open Go.al Go.bh
noncomputable section
def yK(nm:a1):Nat->List Go.bh.Node->Option Nat
 |_,[]=>none
 |B,g::l=>if g.name=nm then some B else yK nm (B+1) l
def pt(aC:List Go.bh.Node)(nm:a1):Option Nat:=yK nm 0 aC
section
variable{X:cD}{h V bb aV:U an}{k av aQ bp:Nat}{P:Nat->Prop}{aC:List Go.bh.Node}
theorem anY(aA:d7 X){g:Go.bh.Node}{row:List H}(aS:(y X).bj<=k)(bV:pj X h P g row){c:Nat}{nm:a1}(ay:c<k)(vQ:ao X h (.ptr c 0)=some (.str nm)):
 a6 X 134 [.agg row, .ptr c 0] h k (λad V av=>ad= .bool (decide (g.name=nm))/\bB X h k V av) (λ_ _ _=>False):=by
 refine dj (adz X) (aA.none _ _ rfl) ?_
 rw[adA]
 unfold SI
 obtain⟨dk,dK,bx,fG,dr,eu,eI,jZ,abU,rfl,_⟩:=bV
 refine cx @vQ ⟨?_⟩
 exact⟨rfl,dR⟩
theorem anQ(aA:d7 X){bx:H}{cN:Nat}{b6:List (List H)}(aS:(y X).bj<=k)(dp:ej X h P cN bx 6 b6)(tY:oF X h P aC b6)(co:∀j,P j->j<k){c:Nat}{nm:a1}(ay:c<k)(vQ:ao X h (.ptr c 0)=some (.str nm)):
 a6 X 133 [bx, .func (.func 134) [] [.ptr c 0]] h k (λad V av=>ad= .int .i64 (match pt aC nm with|some B=>(B:Int)|none=> -1)/\bB X h k V av) (λ_ _ _=>False):=by
 refine dj (adx X) (aA.none _ _ rfl) ?_
 rw[ady]
 unfold SH
 have vT:=tY.wide
 have fw:=dp.len
 have lm:=dp.many
 rw[vT.1]at fw lm
 refine cx @fw ⟨?_⟩
 refine f8 (λm J V aY=>∃(aa:Nat),J.g 0=some bx/\J.g 1=some (.func (.func 134) [] [.ptr c 0])/\J.g 7=some (.int .i64 (aC.length:Int))/\J.g 8=some (.int .i64 (aa:Int))/\aa+m=aC.length/\bB X h k V aY/\pt aC nm=yK nm aa (aC.drop aa))
  aC.length ⟨0,bv,bv,bv,gL,Zo,bB.refl _ _,rfl⟩ ?_
 rintro m J aV bp ⟨aa,t0,t1,hY,iA,bK,ct,b5⟩
 have gZ:=ct.le
 cases m with
 |zero=>
  have d:decide ((aa:Int)<(aC.length:Int))=false:=by simp only[Zb];omega
  rw[Z1 Zo]at b5
  refine e8 @iA @hY @d ⟨?_⟩
  exact⟨by rw[b5];rfl,ct⟩
 |succ m=>
  have d:decide ((aa:Int)<(aC.length:Int))=true:=by simp only[Zh];omega
  have bF:aL .add (.int .i64 (aa:Int)) (.int .i64 1)=some (.int .i64 ((aa+1:Nat):Int)):=by rw[eQ Zo Zo];rfl
  obtain⟨g,bV⟩:∃g,aC[aa]? =some g:=⟨_,Zf Zo⟩
  have aI:aC.drop aa=g::aC.drop (aa+1):=by
   obtain⟨ag,T⟩:=Zc.1 bV
   rw[ZA ag,T]
  obtain⟨row,fN,lC⟩:=tY.get aa g bV
  have aP:=λj (T:P j)=>ct.af j (co j T)
  have eG:=dp.ik aa (by rw[vT.1];omega)
  have mx:=(dp.af aP).row Zd fN
  have alr:ao X aV (.ptr c 0)=some (.str nm):=by rw[c4,ct.af c ay, <-c4];exact vQ
  rw[aI,yK]at b5
  refine e0 @iA @hY @t1 @t0 @d @eG @mx ⟨?_⟩
  refine(anY aA Zo (lC.af (bR:=P) aP (λ_ a=>a)) Zo alr).Zm ?_
  rintro ad bo bw ⟨rfl,cE⟩
  by_cases jg:g.name=nm
  ·rw[Zr jg]at b5
   have cG:decide (g.name=nm)=true:=by simp[jg]
   rw[cG]
   refine c0 ⟨?_⟩
   exact⟨by rw[b5],ct.trans cE⟩
  ·rw[Zg jg]at b5
   have cG:decide (g.name=nm)=false:=by simp[jg]
   rw[cG]
   refine dc @iA @bF ⟨?_⟩
   exact⟨m,Zo,aa+1,bn t0,bn t1,bn hY,bv,Zo,ct.trans cE,b5⟩
theorem N4(b:Nat):dn X h .eql 23 true (.ptr b 0) .cI=some (.bool false):=by kernel_rfl
theorem aaN{C:aX}{h:U an}(x:Int):q9 C h .max [3,3] [.int .i64 x, .int .i64 0]=some (.int .i64 (max x 0)):=by
 show nR true (.int .i64 x) [.int .i64 0]=_
 simp only[nR,fB,sU,ZB]
 congr 2
 simp only[Zh]
 split<;>omega
theorem VH(aA:d7 X){v:H}(aS:(y X).bj<=k)(bV:sc X h P aC v)(co:∀j,P j->j<k)(nm:a1):
 a6 X 79 [v, .str nm] h k (λad V av=>ad= .tuple [.int .i64 (((pt aC nm).getD 0:Nat):Int), .bool (pt aC nm).isSome]/\bB X h k V av) (λ_ _ _=>False):=by
 refine dj (af1 X) (aA.none _ _ rfl) ?_
 rw[af2]
 unfold T2
 obtain⟨b,bx,cN,b6,rfl,Kw,a0,dp,tY⟩:=bV
 have fv:=co b Kw
 refine dc @N4 @a0 ⟨?_⟩
 refine eZ (λbb=>ab X bb k=some (.cells (U.ofList [.str nm] 0 .nil) 1 .own)/\bB X h k bb (k+1)) ⟨bq aS,dR⟩ ?_
 rintro bb ⟨b9,b8⟩
 have aP:=λj (T:P j)=>b8.af j (co j T)
 refine(anQ (k:=k+1) (h:=bb) aA Zo (dp.af aP) (tY.af (bR:=P) aP (λ_ a=>a)) (λj T=>by have:=co j T;omega) Zo (by rw[bW b9];rfl)).Zm ?_
 rintro ad aV bp ⟨rfl,ct⟩
 cases b5:pt aC nm with
 |none=>
  refine cx @aaN ⟨?_⟩
  exact⟨rfl,b8.trans ct⟩
 |some B=>
  have d:decide ((0:Int)<=(B:Int))=true:=by simp only[Zh];omega
  have bi:max (B:Int) 0=(B:Int):=Zo
  refine e8 @aaN @d @bi ⟨?_⟩
  exact⟨rfl,b8.trans ct⟩
end
end
end Go.Proofs.YtpfajohmofnkfaaGreatDoor

