/- Part of the proof of the last text; no conditions -/
import Derived.Test.YtbbkkkpgjaopkaaGreatDoorYc
set_option maxHeartbeats 8000000
set_option linter.all false
namespace Go.bp
open Go.RowKit (Below)
section
variable{C:aM}{J cX:cQ}{Y dg:Nat->Prop}{h S:R ag}{j aq bd:Nat}{w bO:World}
def ab8(n:Nat):∀k,r0 n k=k.contains n:=by
 intro k
 induction k with
 |nil=>rfl
 |cons D k ah=>simp only[r0,List.contains_cons,ah];congr 1;rw[Z7,Y1];exact⟨Zj,λa=>by rw[a];exact Y0 _⟩
def NK(C:aM)(J:cQ)(Y:Nat->Prop)(h:R ag)(j bd:Nat)(w:World)(s:Sem Value)(res:dI):Prop:=match res with
 | .val v=>mj C J Y h j bd w s v h j
 | .fl v S aq=>mj C J Y h j bd w s v S aq
 | .fork k=>∃v S,(v,S)∈k/\mj C J Y h j bd w s v S j
 |_=>False
def arB(U:c9 C J Y h j bd w){ej:Operand}{xl:Bool}{ty:TypeId}{aw:Operand->Value}{d5:Operand->Option z}{res:dI}(cv:iL J Y aw d5 [ej])(a:va C ej xl h j d5=some res):
 NK C J Y h j bd w (Instr.next (aw ej) xl ty) res:=by
 unfold va at a
 split at a
 ·rename_i r af
  obtain⟨B,mr⟩:=cv ej Zs _ af
  simp only[ey]at a
  obtain⟨HK,a⟩:=a
  have aj:C.a6<=r:=iN HK
  rw[B]
  split at a
  ·rename_i s pos bb
   obtain⟨lu,I,M⟩:=U.obj r _ bb mr
   have Z:(getObj (J r).cz).run C.P w= .ok (.stringIter (fC s) pos) w:=by simp[getObj,Sem.run,I]
   have d9:(fC s).size=s.length:=by simp[fC,ByteArray.size]
   rw[eU]at a
   split at a
   ·rename_i av
    have av:=kX av
    rw[qj]at a
    split at a
    ·rename_i c ay
     simp only[ey]at a
     obtain⟨PX,a⟩:=a
     have PX:=kX PX
     obtain⟨rfl,_⟩:=SC a
     obtain⟨bO,bM,cq,df⟩:=putObj U (c0:=j) (nU:= .nZ s (pos+1)) (o':= .stringIter (fC s) (pos+1)) aj mr bb ⟨Zs,Zs⟩ I Zs (λbO rS=>⟨lu,rS,M⟩) ⟨λ_ _ _ a=>(by cases a),λ_ _ _ a=>(by cases a)⟩
     refine⟨J,Y,bO, ?_,⟨trivial,trivial,trivial,trivial⟩,cq,df,Zi _⟩
     have cO:pos<(fC s).size:=by rw[d9];exact av
     have XJ:((fC s)[pos]'cO).toNat=c:=by
      show((fC s).data[pos]).toNat=c
      have aD:s[pos]=c:=by
       rw[Zf av]at ay
       exact Yv ay
      simp[fC,aD];omega
     have La:=decode_ascii (fC s) pos cO (by rw[XJ];exact PX)
     rw[XJ]at La
     simp[Instr.next,aJ,bP,lu,Z,d9,av,La,bM,goInt]
    ·simp at a
   ·rename_i av
    have av:¬pos<s.length:=λal=>av (by simp[Nat.blt];omega)
    simp at a;subst a
    refine mj.same U ?_ ⟨trivial,trivial⟩
    simp[Instr.next,aJ,bP,lu,Z,d9,av]
  ·rename_i ux seen adx bb
   obtain⟨lu,I,M⟩:=U.obj r _ bb mr
   have Z:(getObj (J r).cz).run C.P w= .ok (.mapIter none ux seen.toArray adx) w:=by simp[getObj,Sem.run,I]
   simp at a;subst a
   refine mj.same U ?_ ⟨trivial,trivial⟩
   simp[Instr.next,aJ,bP,lu,Z]
  ·simp at a
 ·simp at a
end
section
variable{C:aM}{J cX:cQ}{Y dg:Nat->Prop}{h S:R ag}{j aq bd:Nat}{w bO:World}
def akT(w:World)(b7:Array Value)(B:TypeId)(n:Nat):(w.alloc (.cells b7 B)).freeze ⟨w.heap.size,n,none⟩ 1=w.alloc (.cells b7 B (n,n+1)):=by
 unfold World.freeze
 rw[Zg Zd]
 show({w with heap:=(w.heap.push (.cells b7 B)).modify w.heap.size _}:World)={w with heap:=w.heap.push (.cells b7 B (n,n+1))}
 congr 1
 apply Array.ext_getElem?
 intro o
 rw[Y6,Array.getElem?_push,Array.getElem?_push]
 by_cases aG:w.heap.size=o
 ·subst aG;simp
 ·rw[Zg aG,Zg (λB=>aG B.symm),Zg (λB=>aG B.symm)]
def akS{p:Nat}{b7:Array Value}{ty:TypeId}{bL aE:Nat}(a:w.heap[p]? =some (.cells b7 ty (bL,aE)))(n:Nat):
 (w.freeze ⟨p,n,none⟩ 1).heap[p]? =some (.cells b7 ty (if bL==aE then(n,n+1)else(min bL n,max aE (n+1))))/\(∀o,o≠p->(w.freeze ⟨p,n,none⟩ 1).heap[o]? =w.heap[o]?):=by
 unfold World.freeze
 rw[Zg Zd]
 constructor
 ·simp only[Y6,ZE,a,ZR]
 ·intro o aG
  simp only[Y6]
  rw[Zg (λB=>aG B.symm)]
def auV(U:c9 C J Y h j bd w)(eB:bd<=w.heap.size){s d:Nat}{x:Operand}{aw:Operand->Value}{d5:Operand->Option z}{res:dI}(cv:iL J Y aw d5 [x])(a:Hy C s d x h j d5=some res):
 NK C J Y h j bd w (convert s d (aw x)) res:=by
 unfold Hy at a
 split at a
 ·rename_i B k aD aI af
  obtain⟨ex,g⟩:=cv x Zs _ af
  split at a
  ·rename_i bl
   obtain⟨f8,rfl⟩:=Xb a
   rw[ex]
   have d9:(fC k).size=k.length:=by simp[fC,ByteArray.size]
   have axm:(fC k).data.size=k.length:=by simp[fC]
   have ay:=ady J k g
   have alh:d2 Y (k.map λn=>z.int .u8 (Int.ofNat n)):=by
    rw[tI];intro v bt;obtain⟨e,_,rfl⟩:=ZK.1 bt;trivial
   obtain⟨cap,lY,yL⟩:∃cap,k.length<=cap/\(choose (.appendCap k.length 0 B)).run C.P w= .ok cap w.drew:=
    ⟨k.length+(w.tape w.drawn (.appendCap k.length 0 B))%(2^63-k.length),Zo,by simp[Question.forced,Question.cut]⟩
   have LS:(k.map λn=>z.int .u8 (Int.ofNat n)).length+(Array.replicate (cap-k.length) (Value.int .u8 0)).size=cap*1:=by simp;omega
   have HG:=Xe (C:=C) (J:=J) (w:=w) (j:=j) alh (qW U) LS B []
   have BR:jC C (fY J j ⟨w.heap.size,0,cap*1⟩) (add Y j) (.cells (R.ofList (k.map λn=>z.int .u8 (Int.ofNat n)) 0 .nil) (k.map λn=>z.int .u8 (Int.ofNat n)).length (.grow [])) ⟨w.heap.size,0,cap*1⟩
    (w.drew.alloc (.cells ((bP J (k.map λn=>z.int .u8 (Int.ofNat n))).toArray++Array.replicate (cap-k.length) (Value.int .u8 0)) B (cap,cap+1))):=by
    obtain⟨b7,ty,bL,aE,b0,cy,cT,fi⟩:=HG
    have VB:=tW w.drew (.cells ((bP J (k.map λn=>z.int .u8 (Int.ofNat n))).toArray++Array.replicate (cap-k.length) (Value.int .u8 0)) B)
    have ao3:w.drew.heap.size=w.heap.size:=rfl
    rw[ao3]at VB
    rw[VB]at b0
    cases b0
    refine⟨_,B,cap,cap+1,tW w.drew _,⟨.inr ?_,cy.2.1,cy.2.2⟩,cT,fi⟩
    simp[jo];omega
   refine⟨fY J j ⟨w.heap.size,0,cap*1⟩,add Y j,_, ?_, .inr rfl,U.drew.alloc U.a6 (Yx _) (Z6 _) (qW U) eB rfl (by rw[fq _ U.a6,Zp rfl]) (λx af=> .inl (by rw[fq _ U.a6,Zg af])) BR
    ⟨λ_ _ _ a=>(by cases a;simp),λ_ _ _ a=>(by cases a;exact Fy)⟩,OU U eB _ (λx af _=>by rw[fq _ U.a6,Zg af]),Z6 _⟩
   have aoU:((bP J (k.map λn=>z.int .u8 (Int.ofNat n))).toArray++Array.replicate (cap-k.length) (Value.int .u8 0)).size=cap:=by simp[jo];omega
   have tY:=akT w.drew ((bP J (k.map λn=>z.int .u8 (Int.ofNat n))).toArray++Array.replicate (cap-k.length) (Value.int .u8 0)) B cap
   have Qf:w.drew.heap.size=w.heap.size:=rfl
   rw[Qf]at tY
   have QZ:(w.drew.alloc (.cells ((bP J (k.map λn=>z.int .u8 (Int.ofNat n))).toArray++Array.replicate (cap-k.length) (Value.int .u8 0)) B)).shape? w.heap.size=some (B,cap):=by
    have:=tW w.drew (.cells ((bP J (k.map λn=>z.int .u8 (Int.ofNat n))).toArray++Array.replicate (cap-k.length) (Value.int .u8 0)) B)
    rw[Qf]at this
    simp only[World.shape?,this,aoU]
   simp only[convert,Sem.run_bind,run_underlying aD,run_underlying aI,run_underlying bl,Result.andThen_ok,aJ,Conv.stringToBytes,d9,yL,ay,newRow,run_newObj_alloc,Qf,Sem.run_pure,markStringish,run_shape,QZ,run_freeze,tY,
    kU,ZQ,zf,Yc,Nat.div_one]
  ·simp at a
 ·rename_i sw B b V len cap aD aI af
  obtain⟨ex,g⟩:=cv x Zs _ af
  split at a
  ·rename_i bl
   simp only[ey,Zn]at a
   obtain⟨⟨QX,HK⟩,a⟩:=a
   have QX:s=d:=Zj QX
   subst QX
   have aj:C.a6<=b:=iN HK
   rw[ex]
   have fin:∀(c:R z) (n:Nat) (st:nt),Z C h b=some (.cells c n st)->(st= .own\/st= .marked)->∀S,Z C S b=some (.cells c n .marked)->(∀x,x≠b->Z C S x=Z C h x)->
    mj C J Y h j bd w (convert s s (aJ J (.slice b V len cap))) (.slice b V len cap) S j:=by
    intro c n st bb cK S fG dX
    obtain⟨b7,ty,bL,aE,bm,ct,a3,a4⟩:=U.obj b _ bb g
    have BE:JJ (.cells c n st):=by rcases cK with rfl|rfl<;>exact⟨Zs,Zs⟩
    have ED:bL=aE\/b7.size<=bL:=by rcases cK with rfl|rfl;exact .inl ct;exact ct
    obtain⟨ez,e5⟩:=akS bm b7.size
    have yJ:=U.base b _ aj bb g
    have H4:∃qR j2,(if bL==aE then(b7.size,b7.size+1)else(min bL b7.size,max aE (b7.size+1)))=(qR,j2)/\b7.size<=qR:=by
     by_cases al:bL=aE
     ·exact⟨_,_,by rw[Zp (by simpa using al)],Zi _⟩
     ·refine⟨_,_,by rw[Zg (by simpa using al)], ?_⟩
      have:=ED.resolve_left al
      omega
    obtain⟨qR,j2,bA,cg⟩:=H4
    rw[bA]at ez
    refine⟨J,Y,w.freeze ⟨(J b).cz,b7.size,none⟩ 1, ?_,g,U.put aj g bb fG (λx af=> .inl (dX x af)) (λo aG=>e5 o aG) ?_ ⟨b7,ty,qR,j2,ez, .inr cg,a3,a4⟩ ⟨λ_ _ _ a=>(by cases a),λ_ _ _ a=>(by cases a;exact(U.eb b _ bb g).2 _ _ _ rfl)⟩, ?_,Zi _⟩
    ·have QZ:w.shape? (J b).cz=some (ty,b7.size):=St bm
     have amB:(s==s)=true:=by simp
     simp only[convert,Sem.run_bind,run_underlying aD,Result.andThen_ok,aJ]
     rw[aD]at aI
     cases aI
     simp only[amB,run_underlying bl,Sem.run_bind,Result.andThen_ok,markStringish,run_shape,QZ,run_freeze,Sem.run_pure]
    ·intro x de c5 af dq fp
     rw[dX x c5]at af
     exact U.alone aj g bb BE x de c5 af dq fp
    ·refine⟨λ_ _=>rfl,λ_ a=>a,λ_ a=> .inl a,λx af _=>dX x (λB=>af (by rw[B];exact g)), ?_⟩
     refine⟨?_, ?_, ?_, ?_,λo aG=>e5 o Zo⟩<;>simp[World.freeze]
   split at a
   ·rename_i c n bb
    simp only[gB,Ze]at a
    subst a
    exact fin c n .own bb (.inl rfl) _ (by rw[fq _ aj,Zp rfl]) (λx af=>by rw[fq _ aj,Zg af])
   ·rename_i c n bb
    simp only[Ze]at a
    subst a
    exact fin c n .marked bb (.inr rfl) h bb (λ_ _=>rfl)
   ·simp at a
  ·simp at a
 ·simp at a
end
def h0(C:aM)(J:cQ)(Y:Nat->Prop)(h:R ag)(j bd:Nat)(w:World)(s:Sem Next)(res:dI):Prop:=match res with
 | .val v=>xX C J Y h j bd w s v h j
 | .fl v S aq=>xX C J Y h j bd w s v S aq
 | .fork k=>∃v S,(v,S)∈k/\xX C J Y h j bd w s v S j
 | .enter f args=>s.run C.P w= .ok (.enter f (bP J args).toArray) w/\d2 Y args
 | .known f args v=>C.gS f args=some v/\s.run C.P w=(callFunc f (bP J args).toArray).run C.P w/\d2 Y args
 | .round k args=>s.run C.P w=(Instr.yield (J k).cz (bP J args).toArray).run C.P w/\d2 Y args/\Y k
 | .defer d=>s.run C.P w= .ok (.defer (lg J d)) w/\u3 Y d
 | .recover=>s.run C.P w= .ok .recover w
 | .panic v=>s.run C.P w= .halt (.panic (aJ J v)) w/\b2 Y v
section
variable{C:aM}{J cX:cQ}{Y dg:Nat->Prop}{h S:R ag}{j aq bd:Nat}{w bO:World}
def h0.one{s:Sem Value}{res:dI}(a:NK C J Y h j bd w s res):h0 C J Y h j bd w (do pure (.value (<-s))) res:=by
 cases res with
 |val v=>exact mj.done a
 |fl v S aq=>exact mj.done a
 |fork k=>obtain⟨v,S,I,M⟩:=a;exact⟨v,S,I,M.done⟩
 |_=>exact a.elim
def h0.fl{s:Sem Value}{res:dI}(a:∃v S aq,res= .fl v S aq/\mj C J Y h j bd w s v S aq):h0 C J Y h j bd w (do pure (.value (<-s))) res:=by
 obtain⟨v,S,aq,rfl,a⟩:=a
 exact a.done
def h0.app(U:c9 C J Y h j bd w){s:Sem Value}{res:dI}(a:Ny C J Y h j bd w s res):h0 C J Y h j bd w (do pure (.value (<-s))) res:=by
 rcases a with ⟨v,S,aq,rfl,cX,dg,bO,I,M,ak,aA,bq⟩|⟨v,rfl,I,M⟩
 ·exact mj.done ⟨cX,dg,bO,I,M,ak,aA,bq⟩
 ·exact mj.done (.same U M I)
def h0.unit{s:Sem Unit}{res:dI}(a:∃S bO,res= .fl undef S j/\s.run C.P w= .ok () bO/\c9 C J Y S j bd bO/\hZ C j J Y h bd w J Y S bO):
 h0 C J Y h j bd w (do s;pure .skip) res:=by
 obtain⟨S,bO,rfl,I,M,ak⟩:=a
 exact⟨J,Y,bO, .skip,by simp[I], .inr ⟨rfl,rfl⟩,by trivial,M,ak,Zi _⟩
def h0.congr{s eP:Sem Next}{res:dI}(a:s.run C.P w=eP.run C.P w)(o:h0 C J Y h j bd w eP res):h0 C J Y h j bd w s res:=by
 cases res<;>simp only[h0,xX]at o ⊢ <;>rw[a]<;>exact o
def Ol(jM:wg C.P){f:Nat}{args:List z}{res:dI}(g:d2 Y args)(a:rl C f args=some res):h0 C J Y h j bd w (callFunc f (bP J args).toArray) res:=by
 unfold rl at a
 split at a
 ·rename_i v bt
  simp at a;subst a
  exact⟨bt,rfl,g⟩
 ·split at a
  ·rename_i fn ch
   split at a
   ·rename_i c aj
    simp at a;subst a
    refine⟨?_,g⟩
    have aL:fn.name≠ "runtime.NumGoroutine":=by simpa using jM.num f fn ch (by simp[aj])
    simp[callFunc,ch,aL,aj]
   ·simp at a
  ·simp at a
def abk(jM:wg C.P){fn:Fn}{fm args:List z}{res:dI}(alq:KN Y fn)(WX:d2 Y fm)(ja:d2 Y args)(a:yc C fn fm args=some res):
 h0 C J Y h j bd w (invoke (.fn (mn J fn) (bP J fm).toArray) (bP J args).toArray) res:=by
 unfold yc at a
 split at a
 ·rename_i f
  have B:invoke (.fn (mn J (.func f)) (bP J fm).toArray) (bP J args).toArray=callFunc f (bP J (args++fm)).toArray:=by
   simp[invoke,mn,Bd]
  rw[B]
  exact Ol jM (yz ja WX) a
 ·rename_i k
  simp at a;subst a
  exact⟨rfl,ja,alq⟩
 ·simp at a
def arm(U:c9 C J Y h j bd w)(jM:wg C.P){t:Nat}{v:z}{name:String}{args:List z}{res:dI}(e9:b2 Y v)(ja:d2 Y args)(a:DL C h t v name args=some res):
 h0 C J Y h j bd w (callMethod (.iface t (aJ J v)) name (bP J args).toArray) res:=by
 obtain⟨o,aG⟩:∃o,C.P.types.size+Made.depth=o+1:=⟨C.P.types.size+99,rfl⟩
 have go:∀(f:Nat) (x:z),b2 Y x->(method (o+1) t (aJ J v) name).run C.P w= .ok (f,aJ J x) w->rl C f (x::args)=some res->h0 C J Y h j bd w (callMethod (.iface t (aJ J v)) name (bP J args).toArray) res:=by
  intro f x fe aX ay
  refine(Ol (J:=J) (h:=h) (j:=j) (bd:=bd) (w:=w) jM (args:=x::args) (show b2 Y x/\d2 Y args from⟨fe,ja⟩) ay).congr ?_
  simp[callMethod,aG,aX,bP]
 unfold DL at a
 split at a
 ·rename_i i aE
  split at a
  ·rename_i m aX
   simp only[ey]at a
   obtain⟨av,a⟩:=a
   have EN:m.path.toList=[]:=by simpa using av
   split at a
   ·rename_i f B ch aU
    refine go f v e9 ?_ a
    simp[method,typeInfo,aE,aX,EN,follow,ch,receiverAt,run_underlying aU,Place.get]
   ·rename_i f B ch aU
    split at a
    ·rename_i x af
     obtain⟨I,M⟩:=Vn U e9 af
     refine go f x M ?_ a
     cases v with
     |ptr b V=>
      simp only[Instr.loadAt,Instr.sureAddr,aJ,Sem.run_bind,Sem.run_pure,Result.andThen_ok]at I
      have aoX:∀(hX:TypeId) (D:Addr) (nm:String),Builtin.ssaWrapNilChk_ #[hX] hX #[.pointer (some D),strVal "",strVal nm]=pure (.pointer (some D)):=λ_ _ _=>rfl
      have BV:m.path= #[]:=by simpa using av
      simp[method,typeInfo,aE,aX,BV,follow,ch,receiverAt,run_underlying aU,Place.get,aJ,aoX,asAddr,I]
     |_=>simp[pb,d0,aR]at af;split at af<;>simp at af
    ·simp at a
   ·rename_i f d aL ch aU
    refine go f v e9 ?_ a
    cases d<;>first
     |exact(aL _ rfl).elim
     |simp[method,typeInfo,aE,aX,EN,follow,ch,receiverAt,run_underlying aU,Place.get]
   ·simp at a
  ·simp at a
 ·simp at a
def aiQ(U:c9 C J Y h j bd w)(eB:bd<=w.heap.size)(jM:wg C.P){b:Builtin}{args:Array Operand}{cS:Array TypeId}{ty:TypeId}{ajc:Array Bool}{aw:Operand->Value}{d5:Operand->Option z}{res:dI}
 (cv:iL J Y aw d5 args.toList)(a:Hh C b args cS h j d5=some res):h0 C J Y h j bd w (builtin b cS ty ajc (args.map aw)) res:=by
 have DR:∀{t:Nat}{rest:List Nat},cS.toList=t::rest->cS[0]? =some t:=λaC=>by rw[<-ZO,aC];rfl
 have N7:∀{t aa:Nat}{rest:List Nat},cS.toList=t::aa::rest->cS[1]? =some aa:=λaC=>by rw[<-ZO,aC];rfl
 unfold Hh at a
 split at a
 ·rename_i s x af
  obtain⟨bm,ct⟩:=uO cv af
  rw[bm]
  split at a
  ·rename_i st hX rest aC
   split at a
   ·rename_i al hk
    split at a
    ·rename_i n aL
     exact h0.app U (ahP (ty:=ty) U eB (DR aC) (N7 aC) hk ct.1 aL a)
    ·simp at a
   ·rename_i B hk
    exact h0.app U (Vi (ty:=ty) U eB (DR aC) (N7 aC) hk (.inr ⟨B,rfl⟩) ct.1 ct.2.1 a)
   ·rename_i hk
    exact h0.app U (Vi (ty:=ty) U eB (DR aC) (N7 aC) hk (.inl rfl) ct.1 ct.2.1 a)
   ·simp at a
  ·simp at a
 ·rename_i af
  simp at a;subst a
  exact rfl
 ·simp at a
def ahQ(U:c9 C J Y h j bd w)(eB:bd<=w.heap.size)(jM:wg C.P){oper:Oper}{aw:Operand->Value}{d5:Operand->Option z}{res:dI}(cv:iL J Y aw d5 oper.op.operands.toList)
 (a:mR oper.op C h j d5=some res):h0 C J Y h j bd w (execOp aw oper) res:=by
 obtain⟨dst,op,type,pos,after,guard⟩:=oper
 have acc:∀t m o x,iL J Y aw d5 [m,o,x]->Et C t m o x h j d5=some res->h0 C J Y h j bd w (do Instr.mapUpdate t (aw m) (aw o) (aw x);pure .skip) res:=by
  intro t m o x cv a
  unfold Et at a
  split at a
  ·rename_i D b c aC aj ay
   obtain⟨bA,cb⟩:=cv m Zs D aC
   obtain⟨cg,b5⟩:=cv o Zs b aj
   obtain⟨eN,cG⟩:=cv x Zs c ay
   obtain⟨S,bO,I,M,ak,aA⟩:=ahW U cb b5 cG a
   rw[bA,cg,eN]
   exact h0.unit ⟨S,bO,I,M,ak,aA⟩
  ·simp at a
 cases op<;>simp only[mR]at a<;>(try(cases a;done))<;>simp only[execOp]<;>simp only[Op.operands]at cv
 case mapUpdate t m o x=>exact acc t m o x (by simpa using cv) a
 case insert t m o x=>exact acc t m o x (by simpa using cv) a
 case makeSlice t k c=>exact h0.fl (ard U eB (by simpa using cv) a)
 case makeMap t r=>
  cases r with
  |none=>simp at a
  |some r=>exact h0.fl (arb U eB (by simpa using cv) a)
 case convert s d x=>exact h0.one (auV U eB (by simpa using cv) a)
 case range t x=>exact h0.fl (as7 U eB (by simpa using cv) a)
 case next ej s=>exact h0.one (arB U (by simpa using cv) a)
 case panic x=>
  unfold PL at a
  split at a
  ·rename_i t v af
   simp at a;subst a
   obtain⟨B,g⟩:=cv x Zs _ af
   refine⟨?_,g⟩
   simp[Instr.panic,B,aJ]
  ·simp at a
 case defer c=>
  unfold Py at a
  split at a
  ·rename_i f args cS
   split at a
   ·rename_i fn first fm cf ch has
    simp at a;subst a
    simp only[Call.operands]at cv
    obtain⟨B,g⟩:=cv f Zs _ ch
    obtain⟨bm,ct⟩:=uO (cv.mono (by simp;intro x af;exact .inr af)) has
    refine⟨?_,⟨g.1,g.2.2⟩,yz g.2.1 ct⟩
    simp[resolve,B,aJ,Deferred.ofValue,bm,lg,Bc,Bd]
   ·simp at a
  ·simp at a
 case call c=>
  unfold Bx at a
  split at a
  ·rename_i f args cS
   split at a
   ·rename_i fn first fm cf ch has
    simp only[Call.operands]at cv
    obtain⟨B,g⟩:=cv f Zs _ ch
    obtain⟨bm,ct⟩:=uO (cv.mono (by simp;intro x af;exact .inr af)) has
    refine(abk (J:=J) (h:=h) (j:=j) (bd:=bd) (w:=w) jM g.1 g.2.2 (yz g.2.1 ct) a).congr ?_
    simp[resolve,B,aJ,Deferred.ofValue,bm,Bd]
   ·simp at a
  ·rename_i b args cS
   simp only[Call.operands]at cv
   show h0 C J Y h j bd w (builtin b cS type _ (args.map aw)) res
   exact aiQ U eB jM (cv.mono Zs) a
  ·rename_i r name args cS
   split at a
   ·rename_i t v cf ET has
    simp only[Call.operands]at cv
    obtain⟨B,g⟩:=cv r Zs _ ET
    obtain⟨bm,ct⟩:=uO (cv.mono (by simp;intro x af;exact .inr af)) has
    refine(arm (v:=v) U jM g ct a).congr ?_
    simp[resolve,B,aJ,invoke,bm]
   ·simp at a
end
noncomputable section
abbrev dG:=Option z
structure hR where
 fn:Nat
 n:Nat
 am:Nat
 aW:List he
 aH:Bool
 ro:Option Nat
 cs:List gh
abbrev g5:=ku->List dy->hR->R z->R ag->Nat->dG
def n3(g:Option (Nat×Bool))(an:List (Nat×z)):Option Bool:=
 match g with
 |none=>some true
 |some (W,k9)=>(match d1 an W with
  |some v=>(match v with| .bool b=>some (b==k9)|_=>some false)
  |none=>none)
def pv(f:z->z->Bool):List z->List z->Bool
 |[],[]=>true
 |D::k,b::m=>f D b&&pv f k m
 |_,_=>false
def z.same:Nat->z->z->Bool
 |0,_,_=>false
 |d+1,x,e=>match x,e with
  | .bool D, .bool b=>D==b
  | .int o D, .int eE b=>decide (o=eE)&&decide (D=b)
  | .str D, .str b=>l8 D b
  | .ptr D b, .ptr fK dT=>Nat.beq D fK&&Nat.beq b dT
  | .cM, .cM=>true
  | .slice D b c B, .slice fK dT gA f7=>Nat.beq D fK&&Nat.beq b dT&&Nat.beq c gA&&Nat.beq B f7
  | .fh D b c B, .fh fK dT gA f7=>Nat.beq D fK&&Nat.beq b dT&&Nat.beq c gA&&Nat.beq B f7
  | .aV, .aV=>true
  | .map D, .map b=>Nat.beq D b
  | .lM, .lM=>true
  | .func f D b, .func G3 fK dT=>decide (f=G3)&&pv (z.same d) D fK&&pv (z.same d) b dT
  | .nilFunc, .nilFunc=>true
  | .iface t v, .iface dC gp=>Nat.beq t dC&&z.same d v gp
  | .nilIface, .nilIface=>true
  | .agg D, .agg b=>pv (z.same d) D b
  | .tuple D, .tuple b=>pv (z.same d) D b
  |_,_=>false
def uU(C:aM)(base:Nat)(H:R z):List e4->List (Nat×z)->R ag->Option (List (Nat×z)×R ag)
 |[],an,h=>some (an,h)
 |x::k,an,h=>(match n3 x.g an with
  |none=>none
  |some false=>uU C base H k ((x.i,undef)::an) h
  |some true=>(match l3 x.op with
   | .make=>(match nF x.op C (base+x.i) an H with
     |some (v,cE)=>iQ (bn C h (base+x.i) (some cE)) λh=>uU C base H k ((x.i,v)::an) h
     |none=>none)
   |_=>(match gr x.op C h an H with
    |some v=>uU C base H k ((x.i,v)::an) h
    |none=>none)))
def Bj(C:aM)(H:R z)(an:List (Nat×z))(h:R ag):List e4->Bool
 |[]=>true
 |x::k=>(match n3 x.g an with
  |none=>false
  |some false=>Bj C H an h k
  |some true=>(match gr x.op C h an H,d1 an x.i with
   |some v,some aa=>z.same 30 v aa&&Bj C H an h k
   |_,_=>false))
def wH(an:List (Nat×z)):List (Nat×Nat)->R z->Option (R z)
 |[],H=>some H
 |(i,d)::k,H=>(match d1 an i with|some v=>iQ (H.set d (some v)) λH=>wH an k H|none=>none)
def exitTo(id:Nat):List dy->Option (List dy)
 |[]=>none
 | .inBlock sS::o=>bK (Nat.beq sS id) (some o)<|exitTo id o
 |_::o=>exitTo id o
def iJ{α:Type}(V:Option α)(o:α->dG):dG:=Option.rec (motive:=λ_=>dG) none (λD=>o D) V
def Gz(k:List (Nat×z)):Nat->(z->dG)->dG:=
 List.rec (motive:=λ_=>Nat->(z->dG)->dG) (λ_ _=>none)
  (λp _ ah W o=>Prod.rec (motive:=λ_=>dG) (λD b=>Bool.rec (motive:=λ_=>dG) (ah W o) (o b) (Nat.beq D W)) p) k
def KK(t:R z):Nat->(z->dG)->dG:=
 R.rec (motive:=λ_=>Nat->(z->dG)->dG) (λ_ _=>none)
  (λv _ _ h6 pW i o=>Nat.rec (motive:=λ_=>dG) (Option.rec (motive:=λ_=>dG) none (λD=>o D) v)
   (λW _=>Bool.rec (motive:=λ_=>dG) (pW (Nat.div W 2) o) (h6 (Nat.div W 2) o) (Nat.beq (Nat.mod W 2) 0)) i) t
def wD(x:jR):List (Nat×z)->R z->(z->dG)->dG:=
 jR.rec (motive:=λ_=>List (Nat×z)->R z->(z->dG)->dG) (λW an _ o=>Gz an W o) (λn _ H o=>KK H n o) (λD _ _ o=>o D) x
def ad1(g:Option (Nat×Bool)):List (Nat×z)->dG->dG->dG:=
 Option.rec (motive:=λ_=>List (Nat×z)->dG->dG->dG) (λ_ D _=>D)
  (λp an D b=>iJ (n3 (some p) an) λw=>Bool.rec (motive:=λ_=>dG) b D w) g
def G5(k:List (Nat×Nat)):List (Nat×z)->R z->(R z->dG)->dG:=
 List.rec (motive:=λ_=>List (Nat×z)->R z->(R z->dG)->dG) (λ_ H o=>o H)
  (λp _ ah an H o=>Prod.rec (motive:=λ_=>dG) (λi d=>Gz an i λv=>iQ (R.set H d (some v)) λH=>ah an H o) p) k
def C3(ej:dy)(o:List dy)(bR:hR)(H:R z):List gh:=
 hR.rec (motive:=λ_=>List gh) (λfn n am aW aH ro cs=>⟨fn,n,am,H,ej::o,aW, .run,aH,ro⟩::cs) bR
def nD(ah:g5)(C:aM)(f:Nat)(args:List z)(deferred:Bool)(cs:List gh)(h:R ag)(j:Nat):dG:=
 match C.P.funcs[f]? with
 |some fn=>(match fn.body with
  |some c=>pT (Nat.lor (jL c) (nj fn.results.toList)) λam=>bK (Nat.ble args.length fn.ntmps&&li C am c&&xB am fn.results.toList) (ah .run [.code c] ⟨f,fn.ntmps,am,[],deferred,none,cs⟩ (R.ofList args 0 .nil) h j)<|none
  |none=>none)
 |none=>none
def vT(n:Nat):List Nat->List z->R z->Option (R z)
 |[],[],H=>some H
 |p::db,D::cf,H=>bK (Nat.blt p n) (vT n db cf (H.set p (some D)))<|none
 |_,_,_=>none
def oo(ej:dy)(v:z):Option dy:=match ej with
 | .sd ao an a rest fin=>some (.FL ao ((a,v)::an) rest fin)
 | .xP ao base an a kT fin=>some (.drawn ao base ((a,v)::an) kT fin)
 | .inRangeFunc k=>some (.endRangeFunc k)
 |_=>none
def Sn(ah:g5)(todo:List dy)(bR:hR)(v:z)(H:R z)(h:R ag)(j:Nat):dG:=
 match todo with
 |[]=>none
 |ej::o=>(match oo ej v with|some hb=>ah .run (hb::o) bR H h j|none=>none)
def uW:List Nat->R z->R z
 |[],H=>H
 |d::k,H=>uW k (H.set d none)
def tB(todo:List dy)(H:R z):R z:=match todo with
 | .sd ao _ _ _ _::_=>uW (dstsOf ao.toList) H
 | .xP ao _ _ _ _ _::_=>uW (dstsOf ao.toList) H
 |_=>H
def CO(chain:List q4)(bG:ku):ku:=match bG with
 | .panicking pw=> .panicking (chain++pw)
 |_=> .panicking chain
def ac5(ah:g5)(c:gh)(cs:List gh)(chain:List q4)(h:R ag)(j:Nat):dG:=
 match c with
 |⟨fn,n,am,H,todo,aW,bG,aH,ro⟩=>ah (CO chain bG) todo ⟨fn,n,am,aW,aH,ro,cs⟩ (tB todo H) h j
def AL(aH:Bool)(cs:List gh):Option (z×List gh):=
 bK (aH) ((match cs with
  |c::rest=>(match c with
   |⟨fn,n,am,H,todo,aW,bG,iO,ro⟩=>(match bG with
    | .panicking (⟨v,false⟩::Au)=>some (v,⟨fn,n,am,H,todo,aW, .panicking (⟨v,true⟩::Au),iO,ro⟩::rest)
    |_=>some (.nilIface,cs)))
  |[]=>none))<|some (.nilIface,cs)
def wJ(ah:g5)(ej:dy)(o:List dy)(bR:hR)(H:R z)(j:Nat):List (z×R ag)->dG
 |[]=>none
 |[(v,h)]=>(match oo ej v with|some hb=>ah .run (hb::o) bR H h j|none=>none)
 |(v,h)::k=>(match oo ej v with
  |some hb=>(match ah .run (hb::o) bR H h j,wJ ah ej o bR H j k with
   |some D,some b=>bK (z.same 30 D b) (some D) none
   |_,_=>none)
  |none=>none)
def ny(r:dI)(ah:g5)(C:aM)(ej:dy)(o:List dy)(bR:hR)(H:R z)(h:R ag)(j:Nat):dG:=
 match r with
 | .val v=>(match oo ej v with|some hb=>ah .run (hb::o) bR H h j|none=>none)
 | .fl v h j=>(match oo ej v with|some hb=>ah .run (hb::o) bR H h j|none=>none)
 | .enter f args=>nD ah C f args false (C3 ej o bR H) h j
 | .known _ _ v=>(match oo ej v with|some hb=>ah .run (hb::o) bR H h j|none=>none)
 | .round k args=>(match Z C h k with
   |some (.loop _ _ fn n am cN params assign body _)=>(match vT n params args cN with
    |some cN=>ah .run [.code assign, .beginRound, .code body] ⟨fn,n,am,[],false,some k,C3 ej o bR H⟩ cN h j
    |none=>none)
   |_=>none)
 | .defer d=>(match bR with
   |⟨fn,n,am,aW,aH,ro,cs⟩=>(match ro with
    |none=>(match oo ej undef with|some hb=>ah .run (hb::o) ⟨fn,n,am,d::aW,aH,none,cs⟩ H h j|none=>none)
    |some _=>none))
 | .recover=>(match bR with
   |⟨fn,n,am,aW,aH,ro,cs⟩=>(match ro with
    |none=>(match AL aH cs with
     |some (v,cU)=>(match oo ej v with|some hb=>ah .run (hb::o) ⟨fn,n,am,aW,aH,none,cU⟩ H h j|none=>none)
     |none=>none)
    |some _=>none))
 | .panic v=>(match bR with
   |⟨fn,n,am,aW,aH,ro,cs⟩=>(match ro with
    |none=>ah (.panicking [⟨v,false⟩]) (ej::o) ⟨fn,n,am,aW,aH,none,cs⟩ (tB (ej::o) H) h j
    |some _=>none))
 | .fork k=>wJ ah ej o bR H j k
def R4(op:jl):aM->R ag->Nat->List (Nat×z)->R z->(z->R ag->Nat->dG)->(dI->dG)->dG:=
 match op with
 | .Cu x=>λ_ h j an H ai _=>wD x an H λv=>ai v h j
 | .pick c D b=>λ_ h j an H ai _=>iJ (gr (.pick c D b) ⟨default, .nil,0,λ_ _=>none,0⟩ h an H) λv=>ai v h j
 | .fA D=>λC h j an H ai _=>wD D an H λD=>iJ (aR C h D) λv=>ai v h j
 | .Af n D=>λC h j an H ai _=>wD D an H λD=>iJ (d0 C h n D) λv=>ai v h j
 | .off d x=>λ_ h j an H ai _=>wD x an H λD=>iJ (hI d D) λv=>ai v h j
 | .y6 n aO x i=>λC h j an H ai _=>iJ (gr (.y6 n aO x i) C h an H) λv=>ai v h j
 | .y7 aO x i=>λC h j an H ai _=>iJ (gr (.y7 aO x i) C h an H) λv=>ai v h j
 | .CA x=>λ_ h j an H ai _=>wD x an H λD=>iJ (mh D) λv=>ai v h j
 | .Ip op x e=>λ_ h j an H ai _=>wD x an H λD=>wD e an H λb=>iJ (bg op D b) λv=>ai v h j
 | .ext i x=>λ_ h j an H ai _=>wD x an H λD=>iJ (q2 i D) λv=>ai v h j
 | .hC bT V=>λC h j an H ai _=>iJ (gr (.hC bT V) C h an H) λv=>ai v h j
 | .make bT V=>λC h j an H _ pS=>iJ (Mh (.make bT V) C h j an H) pS
 | .st n D v=>λC h j an H _ pS=>iJ (hn (.st n D v) C h j an H) pS
 | .call f args=>λC h j an H _ pS=>iJ (hn (.call f args) C h j an H) pS
 | .e2 bT V=>λC h j an H _ pS=>iJ (hn (.e2 bT V) C h j an H) pS
structure gb where
 ah:g5
 ao:Array Oper
 fin:List (Nat×Nat)
 o:List dy
 bR:hR
def akk(X:gb)(C:aM)(H:R z)(an:List (Nat×z))(i:Nat)(rest:List e4)(r:dI)(h:R ag)(j:Nat):dG:=
 match X with|⟨ah,ao,fin,o,bR⟩=>ny r ah C (.sd ao an i rest fin) o bR H h j
abbrev ST:=gb->aM->R z->List (Nat×z)->R ag->Nat->dG
def asU(lI:ST)(X:gb)(C:aM)(H:R z)(an:List (Nat×z))(i:Nat)(v:z)(h:R ag)(j:Nat):dG:=lI X C H ((i,v)::an) h j
def amW(lI:ST)(X:gb)(C:aM)(H:R z)(an:List (Nat×z))(i:Nat)(rest:List e4)(h:R ag)(j:Nat)(r:dI):dG:=
 match r with
 | .val v=>lI X C H ((i,v)::an) h j
 | .fl v h j=>lI X C H ((i,v)::an) h j
 |r=>akk X C H an i rest r h j
def G0(X:gb)(_:aM)(H:R z)(an:List (Nat×z))(h:R ag)(j:Nat):dG:=
 gb.rec (motive:=λ_=>dG) (λah _ fin o bR=>G5 fin an H λH=>ah .run o bR H h j) X
def CI(i:Nat)(g:Option (Nat×Bool))(op:jl)(rest:List e4)(lI:ST)(X:gb)(C:aM)(H:R z)(an:List (Nat×z))(h:R ag)(j:Nat):dG:=
 ad1 g an (R4 op C h j an H (asU lI X C H an i) (amW lI X C H an i rest h j)) (lI X C H ((i,undef)::an) h j)
def xH(rest:List e4):ST:=
 List.rec (motive:=λ_=>ST) G0 (λx rest lI=>e4.rec (motive:=λ_=>ST) (λi g op=>CI i g op rest lI) x) rest
def wB(ah:g5)(C:aM)(ao:Array Oper)(base:Nat)(an:List (Nat×z))(kT:List uN)(fin:List (Nat×Nat))(o:List dy)(bR:hR)(H:R z)(h:R ag)(j:Nat):dG:=
 match kT with
 |[]=>none
 |s::rest=>(match uU C base H s.sZ an h with
  |none=>none
  |some (an,h)=>bK (Bj C H an h s.Sg) ((match s.e2 with
    |none=>G5 fin an H λH=>ah .run o bR H h j
    |some a=>(match n3 a.g an with
     |none=>none
     |some w=>bK (w) ((match hn a.op C h j an H with
       |some r=>ny r ah C (.xP ao base an a.i rest fin) o bR H h j
       |none=>none))<|ah .run (.drawn ao base ((a.i,undef)::an) rest fin::o) bR H h j)))<|none)
def vZ(fL:List q4):ku:=match fL with|⟨_,true⟩::_=> .returning|_=> .panicking fL
def sn(ah:g5)(aH:Bool)(cs:List gh)(v:z)(h:R ag)(j:Nat):dG:=
 match cs with
 |c::rest=>(match c with
  |⟨fn,n,am,H,todo,aW,bG,iO,ro⟩=>(match bG with
   | .run=>bK aH none (Sn ah todo ⟨fn,n,am,aW,iO,ro,rest⟩ v H h j)
   | .returning=>bK aH (ah .returning todo ⟨fn,n,am,aW,iO,ro,rest⟩ H h j) none
   | .panicking fL=>bK aH (ah (vZ fL) todo ⟨fn,n,am,aW,iO,ro,rest⟩ H h j) none))
 |[]=>bK aH none (some v)
def Rn(h9:Option Code):Bool:=match h9 with|none=>true|some .ret=>true|_=>false
def acJ(h9:Option Code):Bool:=match h9 with|none=>true|some .ret=>true|some (.exit _)=>true|_=>false
def nT(h9:Option Code)(ah:g5)(C:aM)(todo:List dy)(bR:hR)(H:R z)(h:R ag)(j:Nat):dG:=
 match bR with
 |⟨fn,n,am,aW,aH,ro,cs⟩=>(match ro with
  |none=>bK (Rn h9) (ah .returning todo ⟨fn,n,am,aW,aH,none,cs⟩ H h j)<|none
  |some k=>(match Z C h k with
   |some (.loop _ _ fn n am H params assign body defers)=>
    bK ((iB C k&&acJ h9)&& !aH) (iQ (bn C h k (some (.loop (bK h9.isNone .ready .done) h9 fn n am H params assign body defers))) λh=>sn ah aH cs (.bool h9.isNone) h j)<|none
   |_=>none))
def vQ(C:aM)(h:R ag)(H:R z):List ResultVar->Option (List z)
 |[]=>some []
 | .tmp t::k=>(match H.get t,vQ C h H k with|some v,some r=>some (v::r)|_,_=>none)
 | .cell D t::k=>(match H.get D with
   |some p=>(match pb C h t p,vQ C h H k with|some v,some r=>some (v::r)|_,_=>none)
   |none=>none)
def uZ(H:R z)(V:Operand):Option z:=match V with
 | .tmp t=>H.get t
 | .const v=>CF v
 | .global g=>some (.ptr g 0)
 | .func f=>some (.func (.func f) [] [])
def Ja(f:Operand)(params:Array Nat)(assign body:Code)(ah:g5)(C:aM)(o:List dy)(bR:hR)(H:R z)(h:R ag)(j:Nat):dG:=
 match uZ H f,bR with
 |some (.func (.func g) first fm),⟨fn,n,am,aW,aH,ro,cs⟩=>
  (
   match ro with
   |none=>pT j λj=>
    nD ah C g (first++[.func (.yield (j+1)) [] []]++fm) false (⟨fn,n,am,H, .inRangeFunc (j+1)::o,⟨.collected j,[]⟩::aW, .run,aH,none⟩::cs)
     (bn C (bn C h j (some (.deferred (some [])))) (j+1) (some (.loop .ready none fn n am H params.toList assign body j))) (j+2)
   |some k=>(match Z C h k with
    |some (.loop _ _ _ _ _ _ _ _ _ defers)=>pT j λj=>
     nD ah C g (first++[.func (.yield j) [] []]++fm) false (⟨fn,n,am,H, .inRangeFunc j::o,aW, .run,aH,some k⟩::cs)
      (bn C h j (some (.loop .ready none fn n am H params.toList assign body defers))) (j+1)
    |_=>none))
 |_,_=>none
def yt(id:Nat)(ah:g5)(C:aM)(o:List dy)(bR:hR)(H:R z)(h:R ag)(j:Nat):dG:=
 match exitTo id o with
 |some eE=>ah .run eE bR H h j
 |none=>nT (some (.exit id)) ah C (.code (.exit id)::o) bR H h j
def GM(c:Operand)(H:R z)(D b:dG):dG:=iJ (uZ H c) λv=>match v with
 | .bool t=>Bool.rec (motive:=λ_=>dG) b D t
 |_=>none
def Sj(n am:Nat)(ao:Array Oper)(ah:g5)(C:aM)(o:List dy)(bR:hR)(H:R z)(h:R ag)(j:Nat):dG:=
 iJ (IR C n ao am) λr=>NC.rec (motive:=λ_=>dG) (λrest fin=>xH rest ⟨ah,ao,fin,o,bR⟩ C H [] h j) r
def Si(n am:Nat)(ao:Array Oper)(ah:g5)(C:aM)(o:List dy)(bR:hR)(H:R z)(h:R ag)(j:Nat):dG:=
 iJ (IQ C n ao am) λr=>NB.rec (motive:=λ_=>dG) (λkT fin=>pT j λj=>wB ah C ao j [] kT fin o bR H h (j+ao.size)) r
def ac9(ao:Array Oper)(yq:Bool)(ah:g5)(C:aM)(o:List dy)(bR:hR)(H:R z)(h:R ag)(j:Nat):dG:=
 hR.rec (motive:=λ_=>dG) (λfn n am aW aH ro cs=>Bool.rec (motive:=λ_=>dG)
  (Sj n am ao ah C o ⟨fn,n,am,aW,aH,ro,cs⟩ H h j) (Si n am ao ah C o ⟨fn,n,am,aW,aH,ro,cs⟩ H h j) yq) bR
abbrev xV:=g5->aM->List dy->hR->R z->R ag->Nat->dG
def KM:xV:=λah _ o bR H h j=>ah .run o bR H h j
def CB:xV:=λ_ _ _ _ _ _ _=>none
def tz(c:Code):xV:=
 Code.rec (motive:=λ_=>xV) KM
  (λ_ ao d=>ac9 ao d)
  (λ_ b l2 _ ah C o=>l2 ah C (.code b::o))
  (λc _ _ l2 ha ah C o bR H h j=>GM c H (l2 ah C o bR H h j) (ha ah C o bR H h j))
  (λid _ ha ah C o=>ha ah C (.inBlock id::o))
  (λb ha ah C o=>ha ah C (.inLoop b::o))
  (λf params assign body _ _=>Ja f params assign body)
  (λid=>yt id)
  (λb ha ah C o=>ha ah C (.inScope b::o))
  (λ_=>KM)
  (λ_=>CB)
  (λah C o=>nT (some .ret) ah C (.code .ret::o))
  (λ_=>CB) c
def D5(k:Nat):xV:=λah C o bR H h j=>match Z C h k with
 |some (.loop state pending gs aQ kk cN params assign body defers)=>
  (
   match state with
   | .busy=>none
   |_=>bK (iB C k) (iQ (bn C h k (some (.loop .exhausted pending gs aQ kk cN params assign body defers))) λh=>ah .run ((pending.map dy.code).toList++o) bR H h j)<|none)
 |_=>none
def GB:xV:=λah C o bR H h j=>match bR with
 |⟨fn,n,am,aW,aH,ro,cs⟩=>match ro with
  |some k=>(match Z C h k with
   |some (.loop .ready pending gs aQ kk cN params assign body defers)=>
    bK (iB C k) (iQ (bn C h k (some (.loop .busy pending gs aQ kk cN params assign body defers))) λh=>ah .run o ⟨fn,n,am,aW,aH,some k,cs⟩ H h j)<|none
   |_=>none)
  |none=>none
def abm(ej:dy):xV:=
 dy.rec (motive:=λ_=>xV) (λc=>tz c) (λ_=>KM) (λb ah C o=>tz b ah C (.inLoop b::o)) (λ_=>KM)
  (λao an rest fin ah C o bR H h j=>xH rest ⟨ah,ao,fin,o,bR⟩ C H an h j)
  (λao base an kT fin ah C o bR H h j=>wB ah C ao base an kT fin o bR H h j)
  (λ_ _ _ _ _=>CB) (λ_ _ _ _ _ _=>CB) (λ_=>CB) (λk=>D5 k) GB ej
def adw(todo:List dy)(ah:g5)(C:aM)(bR:hR)(H:R z)(h:R ag)(j:Nat):dG:=
 List.rec (motive:=λ_=>dG) (nT none ah C [] bR H h j) (λej o _=>abm ej ah C o bR H h j) todo
def vV(d:he)(ds:List he)(bG:ku)(todo:List dy)(ah:g5)(C:aM)(bR:hR)(H:R z)(h:R ag)(j:Nat):dG:=
 match bR with
 |⟨fn,n,am,_,aH,ro,cs⟩=>(match d with
  |⟨.collected r,_⟩=>(match Z C h r with
   |some (.deferred (some pd))=>bK (iB C r) (iQ (bn C h r (some (.deferred none))) λh=>ah bG todo ⟨fn,n,am,pd++ds,aH,ro,cs⟩ H h j)<|none
   |_=>none)
  |⟨.fn f fm,args⟩=>(match yc C f fm args with
   |some (.enter f cf)=>nD ah C f cf true (⟨fn,n,am,H,todo,ds,bG,aH,ro⟩::cs) h j
   |_=>none))
def one(bj:List z):z:=match bj with|[v]=>v|bj=> .tuple bj
def Jm(todo:List dy)(ah:g5)(C:aM)(bR:hR)(H:R z)(h:R ag)(j:Nat):dG:=
 match bR with
 |⟨fn,n,am,aW,aH,ro,cs⟩=>match aW with
  |d::ds=>vV d ds .returning todo ah C ⟨fn,n,am,[],aH,ro,cs⟩ H h j
  |[]=>(match C.P.funcs[fn]? with
   |some f=>(match vQ C h H f.results.toList with
    |some bj=>sn ah aH cs (one bj) h j
    |none=>none)
   |none=>none)
def Jl(chain:List q4)(todo:List dy)(ah:g5)(C:aM)(bR:hR)(H:R z)(h:R ag)(j:Nat):dG:=
 match bR with
 |⟨fn,n,am,aW,aH,ro,cs⟩=>match aW with
  |d::ds=>vV d ds (.panicking chain) todo ah C ⟨fn,n,am,[],aH,ro,cs⟩ H h j
  |[]=>(match cs with
   |c::rest=>ac5 ah c rest chain h j
   |[]=>none)
def SP(ah:g5)(C:aM)(bG:ku)(todo:List dy)(bR:hR)(H:R z)(h:R ag)(j:Nat):dG:=
 ku.rec (motive:=λ_=>dG) (adw todo ah C bR H h j) (Jm todo ah C bR H h j) (λfL=>Jl fL todo ah C bR H h j) bG
def run(C:aM)(n:Nat):g5:=
 Nat.rec (motive:=λ_=>g5) (λ_ _ _ _ _ _=>none) (λ_ ah bG todo bR H h j=>SP ah C bG todo bR H h j) n
def xE(C:aM)(n:Nat)(f:Nat)(args:List z):dG:=nD (run C n) C f args false [] .nil C.a6
end
section
variable{C:aM}{J cX:cQ}{Y dg:Nat->Prop}{h S:R ag}{j aq bd:Nat}{w bO:World}
def XU(U:c9 C J Y h j bd w)(eB:bd<=w.heap.size)(jM:wg C.P){oper:Oper}{aw:Operand->Value}{wr:List (Nat×Nat)}{an:List (Nat×z)}{H:R z}{c:jl}{res:dI}
 (cv:iL J Y aw (iC wr an H) oper.op.operands.toList)(ay:lh C wr oper.op=some c)(a:hn c C h j an H=some res):h0 C J Y h j bd w (execOp aw oper) res:=by
 have rest:∀V,oper.op=V->c= .e2 wr V->h0 C J Y h j bd w (execOp aw oper) res:=by
  intro V bb BH
  subst BH;subst bb
  exact ahQ U eB jM cv a
 have xu:∀V,c= .hC wr V->h0 C J Y h j bd w (execOp aw oper) res:=by intro V B;subst B;simp[hn]at a
 have acq:∀V,c= .make wr V->h0 C J Y h j bd w (execOp aw oper) res:=by intro V B;subst B;simp[hn]at a
 obtain⟨dst,op,type,pos,after,guard⟩:=oper
 cases op<;>simp only[lh]at ay<;>simp only[Op.operands]at cv
 case store t D x=>
  split at ay
  ·rename_i fK ih s aC af aD
   simp at ay;subst ay
   simp only[hn,mW aC,mW af]at a
   split at a
   ·rename_i aa aU
    split at a
    ·rename_i v bt
     obtain⟨bA,cb⟩:=cv D Zs aa aU
     obtain⟨cg,b5⟩:=cv x Zs v bt
     obtain⟨S,rfl,aI⟩:=auU U aD cb b5 a
     simp only[execOp,bA,cg]
     exact aI _ (λbO rS=>by simp[rS])
    ·simp at a
   ·simp at a
  ·simp at ay
 case call ww=>
  obtain⟨callee,args,cS⟩:=ww
  cases callee with
  |builtin b=>
   cases b<;>simp[lh]at ay<;>first
    |exact rest _ rfl ay.symm
    |exact xu _ ay.symm
  |value f=>
   cases f with
   |func g=>
    simp only at ay
    split at ay
    ·rename_i cf has
     simp at ay;subst ay
     simp only[hn]at a
     split at a
     ·rename_i bj B3
      simp only[Call.operands]at cv
      obtain⟨ea,c4⟩:=ako an H has B3
      have apu:iL J Y aw (iC wr an H) args.toList:=cv.mono (by simp;intro x af;exact .inr af)
      obtain⟨d4,fk⟩:=ab5 apu ea c4
      obtain⟨ez,_⟩:=cv (.func g) Zs (.func (.func g) [] []) rfl
      refine(Ol (J:=J) (h:=h) (j:=j) (bd:=bd) (w:=w) jM fk a).congr ?_
      have B:args.map aw=(bP J bj).toArray:=by apply YZ;simp[d4]
      simp[execOp,resolve,ez,aJ,mn,bP,Deferred.ofValue,invoke,B]
     ·simp at a
    ·simp at ay
   |tmp t=>simp at ay;exact rest _ rfl ay.symm
   |const v=>simp at ay;exact rest _ rfl ay.symm
   |global g=>simp at ay;exact rest _ rfl ay.symm
  |invoke r m=>simp[lh]at ay;exact rest _ rfl ay.symm
 case convert s d x=>
  rw[eU]at ay
  split at ay
  ·simp at ay;exact rest _ rfl ay.symm
  ·simp at ay;exact xu _ ay.symm
 case makeMap t r=>cases r<;>simp[lh]at ay<;>first|exact rest _ rfl ay.symm|exact acq _ ay.symm
 case binOp op t x e F3=>
  rw[eU]at ay
  split at ay
  ·split at ay
   ·simp at ay;subst ay;simp[hn]at a
   ·simp at ay
  ·simp at ay;exact xu _ ay.symm
 case fieldAddr s x f=>
  split at ay
  ·rw[qj]at ay
   split at ay
   ·split at ay
    ·simp only[DZ,Ze]at ay
     obtain⟨_,rfl⟩:=ay
     simp[hn]at a
    ·simp at ay
   ·simp at ay
  ·simp at ay
 case indexAddr t x i=>
  split at ay
  ·split at ay
   ·simp at ay;subst ay;simp[hn]at a
   ·simp at ay
  ·split at ay
   ·simp at ay;subst ay;simp[hn]at a
   ·simp at ay
  ·simp at ay
 all_goals first
  |(simp at ay;first|exact rest _ rfl ay.symm|exact xu _ ay.symm|exact acq _ ay.symm)
  |(split at ay<;>first
    |(simp at ay;subst ay;simp[hn]at a;done)
    |(simp at ay;done))
def Mi{oper:Oper}{wr:List (Nat×Nat)}{c:jl}(ay:lh C wr oper.op=some c){b:Nat}{an:List (Nat×z)}{H:R z}{r:z×ag}(a:nF c C b an H=some r):pP oper.op C (iC wr an H) b=some r:=by
 have rest:∀V,oper.op=V->c= .make wr V->pP oper.op C (iC wr an H) b=some r:=by
  intro V bb BH
  subst BH;subst bb
  exact a
 have xu:∀V,c= .hC wr V->pP oper.op C (iC wr an H) b=some r:=by intro V B;subst B;simp[nF]at a
 have Ao:∀V,c= .e2 wr V->pP oper.op C (iC wr an H) b=some r:=by intro V B;subst B;simp[nF]at a
 obtain⟨dst,op,type,pos,after,guard⟩:=oper
 cases op<;>simp only[lh]at ay
 case call ww=>
  obtain⟨callee,args,cS⟩:=ww
  cases callee with
  |builtin b=>cases b<;>simp[lh]at ay<;>first|exact Ao _ ay.symm|exact xu _ ay.symm
  |value f=>
   cases f with
   |func g=>
    simp[lh]at ay
    split at ay
    ·simp at ay;subst ay;simp[nF]at a
    ·simp at ay
   |tmp t=>simp[lh]at ay;exact Ao _ ay.symm
   |const v=>simp[lh]at ay;exact Ao _ ay.symm
   |global g=>simp[lh]at ay;exact Ao _ ay.symm
  |invoke r m=>simp[lh]at ay;exact Ao _ ay.symm
 case convert s d x=>
  rw[eU]at ay
  split at ay
  ·simp at ay;exact Ao _ ay.symm
  ·simp at ay;exact xu _ ay.symm
 case makeMap t r=>cases r<;>simp[lh]at ay<;>first|exact rest _ rfl ay.symm|exact Ao _ ay.symm
 case binOp op t x e F3=>
  rw[eU]at ay
  split at ay
  ·split at ay
   ·simp at ay;subst ay;simp[nF]at a
   ·simp at ay
  ·simp at ay;exact xu _ ay.symm
 case fieldAddr s x f=>
  split at ay
  ·rw[qj]at ay
   split at ay
   ·split at ay
    ·simp only[DZ,Ze]at ay
     obtain⟨_,rfl⟩:=ay
     simp[nF]at a
    ·simp at ay
   ·simp at ay
  ·simp at ay
 case indexAddr t x i=>
  split at ay
  ·split at ay
   ·simp at ay;subst ay;simp[nF]at a
   ·simp at ay
  ·split at ay
   ·simp at ay;subst ay;simp[nF]at a
   ·simp at ay
  ·simp at ay
 all_goals first
  |(simp at ay;first|exact rest _ rfl ay.symm|exact xu _ ay.symm|exact Ao _ ay.symm)
  |(split at ay<;>first
    |(simp at ay;subst ay;simp[nF]at a;done)
    |(simp at ay;done))
def nW{α:Type}(V:Option α)(o:α->dG):iJ V o=match V with|some D=>o D|none=>none:=by cases V<;>rfl
def Vz(k:List (Nat×z))(W:Nat)(o:z->dG):Gz k W o=iJ (d1 k W) o:=by
 induction k with
 |nil=>rfl
 |cons p k ah=>
  obtain⟨D,b⟩:=p
  show(Bool.rec (motive:=λ_=>dG) (Gz k W o) (o b) (Nat.beq D W))=iJ (bK (Nat.beq D W) (some b) (d1 k W)) o
  rw[ah]
  cases Nat.beq D W<;>rfl
def alo(t:R z):∀(i:Nat) (o:z->dG),KK t i o=iJ (t.get i) o:=by
 induction t with
 |nil=>intro i o;rfl
 |node v k r lI E6=>
  intro i o
  cases i with
  |zero=>cases v<;>rfl
  |succ W=>
   show(Bool.rec (motive:=λ_=>dG) (KK r (Nat.div W 2) o) (KK k (Nat.div W 2) o) (Nat.beq (Nat.mod W 2) 0))=iJ (bK (Nat.beq (Nat.mod W 2) 0) (k.get (Nat.div W 2)) (r.get (Nat.div W 2))) o
   rw[lI,E6]
   cases Nat.beq (Nat.mod W 2) 0<;>rfl
def akl(x:jR)(an:List (Nat×z))(H:R z)(o:z->dG):wD x an H o=iJ (kG x an H) o:=by
 cases x with
 |v W=>exact Vz an W o
 |t n=>exact alo H n o
 |c D=>rfl
def KG:∀(k:List (Nat×Nat)) (an:List (Nat×z)) (H:R z) (o:R z->dG),G5 k an H o=iJ (wH an k H) o:=by
 intro k
 induction k with
 |nil=>intro an H o;rfl
 |cons p k ah=>
  intro an H o
  obtain⟨i,d⟩:=p
  show Gz an i (λv=>iQ (R.set H d (some v)) λH=>G5 k an H o)=_
  rw[Vz]
  simp only[wH]
  cases d1 an i with
  |none=>rfl
  |some v=>simp only[gB];exact ah _ _ _
def Nc(g:Option (Nat×Bool))(an:List (Nat×z))(D b:dG):ad1 g an D b=iJ (n3 g an) λw=>if w=true then D else b:=by
 cases g with
 |none=>simp[nW,n3];rfl
 |some p=>
  show iJ (n3 (some p) an) (λw=>Bool.rec (motive:=λ_=>dG) b D w)=_
  congr 1
  funext w
  cases w<;>rfl
def MC(op:jl)(h:R ag)(j:Nat)(an:List (Nat×z))(H:R z)(ai:z->R ag->Nat->dG)(pS:dI->dG):
 R4 op C h j an H ai pS=match l3 op with
  | .hC=>iJ (gr op C h an H) λv=>ai v h j
  | .make=>iJ (Mh op C h j an H) pS
  | .e2=>iJ (hn op C h j an H) pS:=by
 cases op<;>simp only[R4,l3,akl,gr,nW]<;>(try rfl)
 all_goals(split<;>first|rfl|(split<;>simp_all))
end
def uD:List Oper->Nat->List (Nat×Nat)->List (Nat×Nat)
 |[],_,wr=>wr
 |V::k,i,wr=>uD k (i+1) (wm V i wr)
def hP(ao:Array Oper)(i:Nat):List (Nat×Nat):=uD (ao.toList.take i) 0 []
def avN(D:List Oper):∀(b:List Oper) (i:Nat) (wr:List (Nat×Nat)),uD (D++b) i wr=uD b (i+D.length) (uD D i wr):=by
 induction D with
 |nil=>intro b i wr;rfl
 |cons V D ah=>
  intro b i wr
  simp only[List.cons_append,uD,ah,ZG]
  congr 1;omega
def Jx{ao:Array Oper}{i:Nat}{V:Oper}(a:ao[i]? =some V):hP ao (i+1)=wm V i (hP ao i):=by
 have az:ao.toList[i]? =some V:=by rw[ZO];exact a
 have cO:i<ao.toList.length:=(Zb.1 az).1
 unfold hP
 rw[YA,az,avN]
 have:(ao.toList.take i).length=i:=by simp at cO ⊢;omega
 rw[this]
 simp[uD]
def Jy(ao:Array Oper):hP ao 0=[]:=rfl
def rp(ao:Array Oper)(W:Nat):Option Nat:=(ao[W]?).bind (·.dst)
def GV{ao:Array Oper}{i:Nat}{V:Oper}(a:ao[i]? =some V):rp ao i=V.dst:=by simp[rp,a]
def ah5{V:Oper}{i W:Nat}{wr:List (Nat×Nat)}:uX W (wm V i wr)=if i=W/\V.dst.isSome then V.dst else uX W wr:=by
 unfold wm
 split
 ·rename_i d aI
  simp only[uX,hw,aI]
  by_cases B:i=W<;>simp[B]
 ·rename_i aI
  simp[aI]
def DN{V:Oper}{i t:Nat}{wr:List (Nat×Nat)}:d1 (wm V i wr) t=if V.dst=some t then some i else d1 wr t:=by
 unfold wm
 split
 ·rename_i d aI
  rw[qB,aI]
  by_cases B:d=t<;>simp[B]
 ·rename_i aI
  simp[aI]
def Jz(ao:Array Oper):∀i,i<=ao.size->(∀W t,uX W (hP ao i)=some t->rp ao W=some t)/\
 (∀t W,d1 (hP ao i) t=some W->W<i/\rp ao W=some t/\∀o,W<o->o<i->rp ao o≠some t)/\(∀t,d1 (hP ao i) t=none->∀o,o<i->rp ao o≠some t):=by
 intro i
 induction i with
 |zero=>intro _;rw[Jy];exact⟨λW t a=>by simp[uX]at a,λt W a=>by simp at a,λt _ o aG=>Zo⟩
 |succ i ah=>
  intro aE
  obtain⟨I,M,ak⟩:=ah Zo
  have bb:ao[i]? =some ao[i]:=Array.getElem?_eq_getElem Zo
  rw[Jx bb]
  have aI:=GV bb
  refine⟨λW t a=> ?_,λt W a=> ?_,λt a o aG=> ?_⟩
  ·rw[ah5]at a
   split at a
   ·rename_i B;rw[<-B.1,aI];exact a
   ·exact I W t a
  ·rw[DN]at a
   split at a
   ·rename_i B
    cases a
    exact⟨Zo,by rw[aI];exact B,λo jI hh=>Zo⟩
   ·rename_i B
    obtain⟨bM,cq,df⟩:=M t W a
    refine⟨Zo,cq,λo jI hh=> ?_⟩
    by_cases al:o=i
    ·subst al;rw[aI];exact B
    ·exact df o jI Zo
  ·rw[DN]at a
   split at a
   ·cases a
   ·rename_i B
    by_cases al:o=i
    ·subst al;rw[aI];exact B
    ·exact ak t a o Zo
section
variable{C:aM}{J cX:cQ}{Y dg:Nat->Prop}{h S:R ag}{j aq bd:Nat}{w bO:World}
def ks(tmps:Array Value):Operand->Value
 | .tmp t=>tmps.getD t Go.undef
 | .const v=>v
 | .global g=> .pointer (some ⟨g,0,none⟩)
 | .func f=> .func (.func f) #[] #[]
def G2(fr:Frame):fr.eval=ks fr.tmps:=by funext x;cases x<;>rfl
def od(J:cQ)(Y:Nat->Prop)(am:Nat)(X:Nat->Prop)(wr:List (Nat×Nat))(an:List (Nat×z))(H:R z)(tmps:Array Value):Prop:=
 ∀t v,X t->(match d1 wr t with|some W=>d1 an W=some v|none=>e8 am t=true/\H.get t=some v)->tmps[t]? =some (aJ J v)/\b2 Y v
def re(C:aM)(J:cQ)(Y:Nat->Prop):Prop:=∀g,g<C.oS->Y g/\(J g).cz=g/\(J g).dO=0
def ar4{am:Nat}{wr:List (Nat×Nat)}:∀{k:List Operand},CH C am wr k=true->∀x∈k,xw C am wr x=true:=by
 intro k
 induction k with
 |nil=>intro _ x a;simp at a
 |cons D k ah=>
  intro a x af
  simp only[CH,Zn]at a
  rcases Zq.1 af with rfl|af
  ·exact a.1
  ·exact ah a.2 x af
def Wy{am:Nat}{X:Nat->Prop}{wr:List (Nat×Nat)}{an:List (Nat×z)}{H:R z}{tmps:Array Value}(bt:od J Y am X wr an H tmps){k:List Operand}(bI:∀t,Operand.tmp t∈k->X t)(bb:CH C am wr k=true)
 (eo:re C J Y):iL J Y (ks tmps) (iC wr an H) k:=by
 intro x af v a
 have fs:=ar4 bb x af
 cases x with
 |tmp t=>
  have:=bt t v (bI t af) (by
   simp only[iC]at a
   simp only[xw]at fs
   split at a
   ·rename_i W bB;rw[bB];exact a
   ·rename_i bB;rw[bB]at fs ⊢;exact⟨fs,a⟩)
  exact⟨by simp[ks,this.1],this.2⟩
 |const c=>exact Mw a
 |global g=>
  simp[iC]at a;subst a
  simp only[xw]at fs
  obtain⟨cb,b5,cG⟩:=eo g (kX fs)
  exact⟨by simp[ks,aJ,b5,cG],cb⟩
 |func f=>
  simp[iC]at a;subst a
  exact⟨by simp[ks,aJ,mn,bP],trivial,trivial,trivial⟩
end
def yg(m i:Nat):e8 m i=m.testBit i:=by
 unfold e8
 rw[Nat.testBit_eq_decide_div_mod_eq,Z7,Zh]
 exact⟨Zj,λa=>by rw[show Nat.mod (Nat.div m (Nat.pow 2 i)) 2=1 from a];rfl⟩
def J9(i:Nat):e8 0 i=false:=by rw[yg];simp
def DT(D b i:Nat):e8 (Nat.lor D b) i=(e8 D i||e8 b i):=by
 rw[yg,yg,yg];exact Nat.testBit_or D b i
def J8(t i:Nat):e8 (Nat.pow 2 t) i=decide (t=i):=by
 rw[yg];exact Nat.testBit_two_pow
def aiH(D b i:Nat):e8 (Nat.land D b) i=(e8 D i&&e8 b i):=by
 rw[yg,yg,yg];exact Nat.testBit_and D b i
def asb{V:Operand}{m t:Nat}:e8 (Fz V m) t=true↔V= .tmp t\/e8 m t=true:=by
 cases V with
 |tmp aa=>
  show e8 (Nat.lor m (Nat.pow 2 aa)) t=true↔_
  rw[DT,J8]
  simp[or_comm]
 |_=>simp[Fz]
def asc{t:Nat}:∀{k:List Operand},e8 (FA k) t=true↔Operand.tmp t∈k:=by
 intro k
 induction k with
 |nil=>simp[FA,J9]
 |cons D k ah=>
  show e8 (Fz D (FA k)) t=true↔_
  rw[asb,ah]
  simp[eq_comm]
def ajI{V:Oper}{t:Nat}:e8 (GU V) t=true↔V.dst=some t:=by
 unfold GU
 cases V.dst with
 |none=>simp[J9]
 |some d=>
  show e8 (Nat.pow 2 d) t=true↔_
  rw[J8]
  simp
structure JM(C:aM)(n am:Nat)(ao:Array Oper)(x:e4)(V:Oper):Prop where
 oper:ao[x.i]? =some V
 g:GG (hP ao x.i) V.guard=some x.g
 op:lh C (hP ao x.i) V.op=some x.op
 dst:∀d,V.dst=some d->d<n
 reads:CH C am (hP ao x.i) V.op.operands.toList=true
def Ok{C:aM}{n am i:Nat}{V:Oper}{k:List Oper}{wr:List (Nat×Nat)}{cs:List e4}(a:rn C n am (V::k) i wr=some cs):
 ∃g op r,GG wr V.guard=some g/\lh C wr V.op=some op/\Ku n V=true/\CH C am wr V.op.operands.toList=true/\rn C n am k (i+1) (wm V i wr)=some r/\cs=⟨i,g,op⟩::r:=by
 simp only[rn,lG]at a
 split at a
 ·rename_i g op bX BU
  simp only[ey,Zn]at a
  obtain⟨⟨I,M⟩,a⟩:=a
  split at a
  ·rename_i r U
   simp at a
   exact⟨g,op,r,bX,BU,I,M,U,a.symm⟩
  ·simp at a
 ·simp at a
def Wm{n:Nat}{V:Oper}(a:Ku n V=true):∀d,V.dst=some d->d<n:=by
 intro d aI
 unfold Ku at a
 rw[aI]at a
 exact kX a
def OK{ao:Array Oper}{i:Nat}{V:Oper}{k:List Oper}(a:ao.toList.drop i=V::k):ao[i]? =some V/\ao.toList.drop (i+1)=k/\i<ao.size:=by
 have I:(ao.toList.drop i)[0]? =some V:=by rw[a];rfl
 rw[Z1,ZO]at I
 refine⟨by simpa using I, ?_, ?_⟩
 ·have:(ao.toList.drop i).drop 1=k:=by rw[a];rfl
  rw[zp]at this
  exact this
 ·exact(ZM.1 (by simpa using I)).1
def aiV{C:aM}{n am:Nat}{ao:Array Oper}:∀(k:List Oper) (i:Nat) (cs:List e4),ao.toList.drop i=k->rn C n am k i (hP ao i)=some cs->
 cs.length=k.length/\∀W x,cs[W]? =some x->x.i=i+W/\∃V,JM C n am ao x V:=by
 intro k
 induction k with
 |nil=>intro i cs _ a;simp[rn]at a;subst a;simp
 |cons V k ah=>
  intro i cs aI a
  obtain⟨g,op,r,I,M,ak,aA,bq,rfl⟩:=Ok a
  obtain⟨cL,cJ,eI⟩:=OK aI
  rw[<-Jx cL]at bq
  obtain⟨bM,cq⟩:=ah (i+1) r cJ bq
  refine⟨by simp[bM],λW x af=> ?_⟩
  cases W with
  |zero=>simp at af;subst af;exact⟨rfl,V,cL,I,M,Wm ak,aA⟩
  |succ W=>
   simp at af
   obtain⟨B,bl⟩:=cq W x af
   exact⟨Zo,bl⟩
def ajT{hW:List (Nat×Nat)}:∀(k:List Edge) (D:Nat),e8 (k.foldr (Bl hW) 0) D=true->∃B∈k,Region.binds .any B=true/\(D=B.on\/∃eH,d1 hW B.on=some eH/\e8 eH D=true):=by
 intro k
 induction k with
 |nil=>intro D a;simp[J9]at a
 |cons B k ah=>
  intro D a
  simp only[List.foldr_cons]at a
  have pw:e8 (k.foldr (Bl hW) 0) D=true->∃f7∈B::k,Region.binds .any f7=true/\(D=f7.on\/∃eH,d1 hW f7.on=some eH/\e8 eH D=true):=λa=>by
   obtain⟨f7,I,M⟩:=ah D a
   exact⟨f7,Zt _ I,M⟩
  unfold Bl at a
  rw[eU]at a
  split at a
  ·exact pw a
  ·rw[eU]at a
   split at a
   ·rename_i aj
    split at a
    ·rename_i o aG
     rw[DT,DT,J8]at a
     simp only[zl,Zh]at a
     rcases a with (a|a)|a
     ·exact pw a
     ·exact⟨B,Zv ..,aj, .inr ⟨o,aG,a⟩⟩
     ·exact⟨B,Zv ..,aj, .inl a.symm⟩
    ·exact pw a
   ·exact pw a
structure DD(ao:Array Oper)(p:fR)(V:Oper):Prop where
 oper:ao[p.i]? =some V
 r:p.r=Nat.lor (FA V.op.operands.toList) (KT (hP ao p.i) V.guard)
 w:p.w=GU V
def aca{ao:Array Oper}:∀(k:List Oper) (i:Nat) (hW:List (Nat×Nat)),ao.toList.drop i=k->(∀W m,d1 hW W=some m->W<i)->
 (Am k i (hP ao i) hW).length=k.length/\(∀W p,(Am k i (hP ao i) hW)[W]? =some p->p.i=i+W/\∃V,DD ao p V)/\
 ∀(bh:Nat->Nat->Prop),(∀W m,d1 hW W=some m->bh W m)->(∀W V m,ao[W]? =some V->i<=W->(∀D,e8 m D=true->∃B∈V.after.toList,Region.binds .any B=true/\(D=B.on\/∃eH,bh B.on eH/\e8 eH D=true))->bh W m)->
  ∀p∈Am k i (hP ao i) hW,bh p.i p.m:=by
 intro k
 induction k with
 |nil=>intro i hW _ _;simp[Am]
 |cons V k ah=>
  intro i hW aI uc
  obtain⟨cL,cJ,eI⟩:=OK aI
  simp only[Am,lG]
  rw[<-Jx cL]
  have anX:∀W m,d1 ((i,V.after.toList.foldr (Bl hW) 0)::hW) W=some m->W<i+1:=by
   intro W m a
   rw[qB]at a
   split at a
   ·omega
   ·have:=uc W m a;omega
  obtain⟨bM,cq,df⟩:=ah (i+1) ((i,V.after.toList.foldr (Bl hW) 0)::hW) cJ anX
  refine⟨by simp only[ZG,bM],λW p av=> ?_,λbh fU qP p av=> ?_⟩
  ·cases W with
   |zero=>simp only[Z9,Ze]at av;subst av;exact⟨rfl,V,cL,rfl,rfl⟩
   |succ W=>
    simp only[ZZ]at av
    obtain⟨B,bl⟩:=cq W p av
    exact⟨Zo,bl⟩
  ·have aE:bh i (V.after.toList.foldr (Bl hW) 0):=by
    refine qP i V _ cL (Zi _) λD aC=> ?_
    obtain⟨B,I,M,ak⟩:=ajT _ D aC
    refine⟨B,I,M,ak.imp id ?_⟩
    rintro⟨eH,aA,bq⟩
    exact⟨eH,fU _ _ aA,bq⟩
   rcases Zq.1 av with rfl|av
   ·exact aE
   ·refine df bh (λW m a=> ?_) (λW V m I M ak=>qP W V m I Zo ak) p av
    rw[qB]at a
    split at a
    ·rename_i B;subst B;cases a;exact aE
    ·exact fU W m a
def ar5{D:fR}:∀{k:List fR},MA D k=true->∀b∈k,My D b=true:=by
 intro k
 induction k with
 |nil=>intro _ b a;simp at a
 |cons c k ah=>
  intro a b aj
  simp only[MA,Zn]at a
  rcases Zq.1 aj with rfl|aj
  ·exact a.1
  ·exact ah a.2 b aj
def ar3:∀{k:List fR},I1 k=true->∀(W i:Nat) D b,W<i->k[W]? =some D->k[i]? =some b->My D b=true:=by
 intro k
 induction k with
 |nil=>intro _ W i D b _ a;simp at a
 |cons c k ah=>
  intro a W i D b τ aC aj
  simp only[I1,Zn]at a
  obtain⟨i,rfl⟩:∃o,i=o+1:=⟨i-1,Zo⟩
  simp at aj
  cases W with
  |zero=>simp at aC;subst aC;exact ar5 a.1 b (Zl aj)
  |succ W=>simp at aC;exact ah a.2 W i D b Zo aC aj
def ar0:∀{k:List Oper}{i:Nat},CG k i=true->∀W V,k[W]? =some V->∀B∈V.after.toList,Region.binds .any B=true->B.on<i+W:=by
 intro k
 induction k with
 |nil=>intro i _ W V a;simp at a
 |cons D k ah=>
  intro i a W V bb B bl aj
  simp only[CG,Zn]at a
  cases W with
  |zero=>
   simp at bb;subst bb
   have:=YG.1 a.1 B bl
   simp only[aj,Ys,Bool.false_or]at this
   have:=kX this
   omega
  |succ W=>
   simp at bb
   have:=ah a.2 W V bb B bl aj
   omega
def amV:∀{k:List fR},HL k=true->∀(p:Nat) D b,k[p]? =some D->k[p+1]? =some b->e8 b.m D.i=true:=by
 intro k
 induction k with
 |nil=>intro _ p D b a;simp at a
 |cons c k ah=>
  intro a p D b aC aj
  simp only[HL,Zn]at a
  cases p with
  |zero=>
   simp at aC aj;subst aC
   cases k with
   |nil=>simp at aj
   |cons d k=>simp at aj;subst aj;exact a.1
  |succ p=>simp at aC aj;exact ah a.2 p D b aC (by simpa using aj)
def amU:∀(db:List fR) (cs:List e4),EB db cs=(db.zip cs).filter λx=>nb x.2.op:=by
 intro db
 induction db with
 |nil=>intro cs;rfl
 |cons p db ah=>
  intro cs
  cases cs with
  |nil=>rfl
  |cons c cs=>
   simp only[EB,List.zip_cons_cons,List.filter_cons,eU,ah]
def aqJ(aD:List fR):∀(db:List fR) (cs:List e4),Fi aD db cs=((db.zip cs).filter λx=> !nb x.2.op).map λx=>⟨x.2,tA x.1.m aD,yN x.1.i aD⟩:=by
 intro db
 induction db with
 |nil=>intro cs;rfl
 |cons p db ah=>
  intro cs
  cases cs with
  |nil=>rfl
  |cons c cs=>
   simp only[Fi,List.zip_cons_cons,List.filter_cons,eU,ah]
   cases nb c.op<;>simp
def KI:∀k:List (fR×e4),pU k=k.map (·.1):=by
 intro k
 induction k with
 |nil=>rfl
 |cons D k ah=>simp[pU,ah]
def aje(m:Nat):∀(aD:List fR) (o:Nat),(∀p a,aD[p]? =some a->o<=p->e8 m a.i=false)->tA m aD<=o:=by
 intro aD
 induction aD with
 |nil=>intro o _;simp[tA]
 |cons a aD ah=>
  intro o aG
  simp only[tA,eU]
  cases o with
  |zero=>
   have:=aG 0 a rfl (Zi _)
   rw[this]
   have:=ah 0 (λp cu av _=>aG (p+1) cu (by simpa using av) Zo)
   simpa using this
  |succ o=>
   have:=ah o (λp cu av f8=>aG (p+1) cu (by simpa using av) Zo)
   split<;>omega
def anm(i:Nat):∀(aD:List fR) (o:Nat),o<=aD.length->(∀p a,aD[p]? =some a->p<o->e8 a.m i=false)->o<=yN i aD:=by
 intro aD
 induction aD with
 |nil=>intro o aG _;simp at aG;omega
 |cons a aD ah=>
  intro o w5 aG
  cases o with
  |zero=>omega
  |succ o=>
   have a2:=aG 0 a rfl Zo
   simp only[yN,a2,kE]
   have:=ah o (by simpa using w5) (λp cu av cO=>aG (p+1) cu (by simpa using av) Zo)
   omega
def pz(tmps:Array Value)(dst:Option Nat)(v:Value):Array Value:=match dst with|some d=>tmps.setIfInBounds d v|none=>tmps
def ML(tmps:Array Value)(dst:Option Nat)(v:Value):(pz tmps dst v).size=tmps.size:=by cases dst<;>simp[pz]
def acX(tmps:Array Value)(dst:Option Nat)(v:Value)(t:Nat)(a:∀d,dst=some d->d<tmps.size):(pz tmps dst v)[t]? =if dst=some t then some v else tmps[t]? :=by
 cases dst with
 |none=>simp[pz]
 |some d=>
  have:=a d rfl
  simp only[pz,Ze,Array.getElem?_setIfInBounds]
  by_cases B:d=t
  ·subst B;simp[this]
  ·simp[B]
def Sub(an g6:List (Nat×z)):Prop:=∀W aa,d1 an W=some aa->d1 g6 W=some aa
def Sub.refl(an:List (Nat×z)):Sub an an:=λ_ _ a=>a
def Sub.trans{D b c:List (Nat×z)}(a:Sub D b)(o:Sub b c):Sub D c:=λW aa bB=>o W aa (a W aa bB)
def Sub.cons{an:List (Nat×z)}{i:Nat}{v:z}(a:d1 an i=none):Sub an ((i,v)::an):=λW aa bB=>by
 rw[qB,Zg]
 ·exact bB
 ·intro B;subst B;rw[a]at bB;cases bB
def o9(C:aM)(h S:R ag):Prop:=∀x,Z C h x=Z C S x\/Z C h x=none
inductive uM(ao:Array Oper):(Nat->Prop)->List Nat->Prop
 |nil {c8}:(∀i,i<ao.size->c8 i)->uM ao c8 []
 |cons {c8 i V k}:ao[i]? =some V->¬c8 i->(∀B∈V.after.toList,Region.binds .any B=true->c8 B.on)->uM ao (add c8 i) k->uM ao c8 (i::k)
noncomputable def uV(C:aM)(n am:Nat)(ao:Array Oper):List e4:=(rn C n am ao.toList 0 []).getD []
noncomputable def oi(ao:Array Oper):List fR:=Am ao.toList 0 [] []
noncomputable def gc(C:aM)(n am:Nat)(ao:Array Oper):List (fR×e4):=EB (oi ao) (uV C n am ao)
noncomputable def lj(C:aM)(n am:Nat)(ao:Array Oper):List pa:=Fi (pU (gc C n am ao)) (oi ao) (uV C n am ao)
structure o7(C:aM)(n am:Nat)(ao:Array Oper):Prop where
 ai8:rn C n am ao.toList 0 []=some (uV C n am ao)
 awg:CG ao.toList 0=true
 aso:I1 (oi ao)=true
 chain:HL (pU (gc C n am ao))=true
section
variable{C:aM}{n am:Nat}{ao:Array Oper}
def OH(a:o7 C n am ao):(uV C n am ao).length=ao.size/\∀W x,(uV C n am ao)[W]? =some x->x.i=W/\∃V,JM C n am ao x V:=by
 have a2:=a.ai8
 have:=aiV (ao:=ao) ao.toList 0 _ Zs (by rw[Jy];exact a2)
 exact⟨by simpa using this.1,λW x af=>by simpa using this.2 W x af⟩
def GQ(ao:Array Oper):(oi ao).length=ao.size/\(∀W p,(oi ao)[W]? =some p->p.i=W/\∃V,DD ao p V):=by
 have:=aca (ao:=ao) ao.toList 0 [] Zs Zs
 rw[Jy]at this
 exact⟨by unfold oi;simpa using this.1,λW p av=>by simpa using this.2.1 W p av⟩
noncomputable def qD(C:aM)(n am:Nat)(ao:Array Oper):List (fR×e4):=(oi ao).zip (uV C n am ao)
def wz(a:o7 C n am ao)(i:Nat)(aE:i<ao.size):∃p x V,(qD C n am ao)[i]? =some (p,x)/\(oi ao)[i]? =some p/\p.i=i/\x.i=i/\JM C n am ao x V/\DD ao p V:=by
 obtain⟨bm,ct⟩:=OH a
 obtain⟨b0,cy⟩:=GQ ao
 have af:(uV C n am ao)[i]? =some ((uV C n am ao)[i]'Zo):=Zf _
 have av:(oi ao)[i]? =some ((oi ao)[i]'Zo):=Zf _
 obtain⟨dv,V,dK⟩:=ct _ _ af
 obtain⟨cL,o',cJ⟩:=cy _ _ av
 have:o'=V:=by
  have bA:=dK.oper;have cg:=cJ.oper
  rw[dv]at bA;rw[cL]at cg
  rw[bA]at cg;exact(Yv cg).symm
 subst this
 refine⟨_,_,o', ?_,av,cL,dv,dK,cJ⟩
 unfold qD
 rw[List.getElem?_zip_eq_some]
 exact⟨av,af⟩
def wA(a:o7 C n am ao){e:fR×e4}(F:e∈qD C n am ao):∃V,e.1.i<ao.size/\e.2.i=e.1.i/\(qD C n am ao)[e.1.i]? =some e/\(oi ao)[e.1.i]? =some e.1/\JM C n am ao e.2 V/\DD ao e.1 V:=by
 obtain⟨W,bB⟩:=ZW.1 F
 have eD:(qD C n am ao).length=ao.size:=by
  unfold qD
  rw[List.length_zip,(OH a).1,(GQ ao).1,Nat.min_self]
 have cO:W<ao.size:=zy (Zb.1 bB).1
 obtain⟨p,x,V,I,M,ak,aA,bq,bV⟩:=wz a W cO
 rw[bB]at I
 cases I
 refine⟨V,by simp only;omega,by simp only;omega, ?_, ?_,bq,bV⟩
 ·simp only[ak];exact bB
 ·simp only[ak];exact M
def Ko:gc C n am ao=(qD C n am ao).filter λ(x:fR×e4)=>nb x.2.op:=amU _ _
def Kq:lj C n am ao=((qD C n am ao).filter λ(x:fR×e4)=> !nb x.2.op).map λ(x:fR×e4)=>⟨x.2,tA x.1.m (pU (gc C n am ao)),yN x.1.i (pU (gc C n am ao))⟩:=aqJ _ _ _
def Ks{k:pa}(az:k∈lj C n am ao):∃p,(p,k.x)∈qD C n am ao/\nb k.x.op=false/\k.bL=tA p.m (pU (gc C n am ao))/\k.aE=yN p.i (pU (gc C n am ao)):=by
 rw[Kq]at az
 obtain⟨e,F,rfl⟩:=ZK.1 az
 obtain⟨I,M⟩:=YJ.1 F
 exact⟨e.1,I,by simpa using M,rfl,rfl⟩
def Kp{e:fR×e4}(F:e∈gc C n am ao):e∈qD C n am ao/\nb e.2.op=true:=by
 rw[Ko]at F
 exact YJ.1 F
def Wi(a:o7 C n am ao)(i:Nat)(aE:i<ao.size):(∃k∈lj C n am ao,k.x.i=i)\/(∃(p:Nat) (e:fR×e4),(gc C n am ao)[p]? =some e/\e.1.i=i):=by
 obtain⟨p,x,V,I,M,ak,aA,bq,bV⟩:=wz a i aE
 have aX:=Zl I
 cases gd:nb x.op with
 |true=>
  refine .inr ?_
  have:(p,x)∈gc C n am ao:=by rw[Ko];exact YJ.2 ⟨aX,gd⟩
  obtain⟨al,bJ⟩:=ZW.1 this
  exact⟨al,_,bJ,ak⟩
 |false=>
  refine .inl ⟨_,by rw[Kq];exact ZK.2 ⟨(p,x),YJ.2 ⟨aX,by simp[gd]⟩,rfl⟩,aA⟩
def Wh(a:o7 C n am ao):(qD C n am ao).Pairwise λD b=>D.1.i<b.1.i:=by
 rw[YP]
 intro i W aE bB yO
 have eD:(qD C n am ao).length=ao.size:=by
  unfold qD
  rw[List.length_zip,(OH a).1,(GQ ao).1,Nat.min_self]
 obtain⟨p,x,V,I,M,ak,_⟩:=wz a i Zo
 obtain⟨axU,ih,o',sE,Em,awl,_⟩:=wz a W Zo
 rw[Zf aE]at I
 rw[Zf bB]at sE
 rw[Yv I,Yv sE]
 simp only;omega
def Wg(a:o7 C n am ao){p al:Nat}{e br:fR×e4}(av:(gc C n am ao)[p]? =some e)(bJ:(gc C n am ao)[al]? =some br)(bl:e.1.i=br.1.i):p=al:=by
 have Ia:(gc C n am ao).Pairwise λD b=>D.1.i<b.1.i:=by rw[Ko];exact(Wh a).filter _
 rw[YP]at Ia
 obtain⟨I,M⟩:=Zb.1 av
 obtain⟨ak,aA⟩:=Zb.1 bJ
 rcases YT p al with cO|rfl|fH
 ·have:=Ia p al I ak cO
  rw[M,aA]at this;omega
 ·rfl
 ·have:=Ia al p ak I fH
  rw[M,aA]at this;omega
def OI(a:o7 C n am ao):(lj C n am ao).Pairwise λD b=>D.x.i<b.x.i:=by
 rw[Kq,List.pairwise_map]
 have I:((qD C n am ao).filter λ(x:fR×e4)=> !nb x.2.op).Pairwise λD b=>D.1.i<b.1.i:=(Wh a).filter _
 refine I.imp_of_mem λ{D b} aC aj cO=> ?_
 obtain⟨_,_,bA,_⟩:=wA a (YJ.1 aC).1
 obtain⟨_,_,cg,_⟩:=wA a (YJ.1 aj).1
 show D.2.i<b.2.i
 rw[bA,cg];exact cO
def Kr(a:o7 C n am ao){k:pa}(az:k∈lj C n am ao):k.x.i<ao.size:=by
 obtain⟨p,av,_⟩:=Ks az
 obtain⟨_,I,M,_⟩:=wA a av
 simp only at I M;omega
def ajy(a:o7 C n am ao){e:fR×e4}(F:e∈gc C n am ao):e.1.i<ao.size/\e.2.i=e.1.i:=by
 obtain⟨_,I,M,_⟩:=wA a (Kp F).1
 exact⟨I,M⟩
def AU(ao:Array Oper)(c8:Nat->Prop):Prop:=∀i V,ao[i]? =some V->c8 i->∀B∈V.after.toList,Region.binds .any B=true->c8 B.on
def GR{c8:Nat->Prop}(bZ:AU ao c8){p:fR}(av:p∈oi ao){V:Oper}(bb:ao[p.i]? =some V)
 (lp:∀B∈V.after.toList,Region.binds .any B=true->c8 B.on):∀D,e8 p.m D=true->c8 D:=by
 have key:=(aca (ao:=ao) ao.toList 0 [] Zs Zs).2.2 (λi m=>(∀V,ao[i]? =some V->∀B∈V.after.toList,Region.binds .any B=true->c8 B.on)->∀D,e8 m D=true->c8 D) Zs
  (λW V m bB _ aX lp D aC=>by
   obtain⟨B,I,M,ak⟩:=aX D aC
   have bl:=lp V bB B I M
   rcases ak with rfl|⟨eH,aA,bq⟩
   ·exact bl
   ·exact aA (λo' EK f7 P5 jb=>bZ B.on o' EK bl f7 P5 jb) D bq)
 rw[Jy]at key
 exact key p av (λo' EK=>by rw[bb]at EK;cases EK;exact lp)
end
structure JI(C:aM)(Y:Nat->Prop)(h:R ag)(base:Nat)(an:List (Nat×z))(H:R z)(x:e4)(aa:z):Prop where
 key:d1 an x.i=some aa
 ok:∃jU b,Sub jU an/\n3 x.g jU=some b/\(b=false->aa=undef)/\(b=true->(nb x.op=false)/\
  (l3 x.op= .make->∃cE,nF x.op C (base+x.i) jU H=some (aa,cE)/\Z C h (base+x.i)=some cE)/\
  (l3 x.op= .hC->AG x.op=false->∀kc,gr x.op C kc jU H=some aa))
def Gm(C:aM)(h:R ag)(an:List (Nat×z))(H:R z)(x:e4)(aa:z):Prop:=
 ∃jU kc b,Sub jU an/\o9 C kc h/\n3 x.g jU=some b/\(b=true->l3 x.op= .hC->gr x.op C kc jU H=some aa)
def xW(J:cQ)(Y:Nat->Prop)(am:Nat)(ao:Array Oper)(c8:Nat->Prop)(an:List (Nat×z))(H:R z)(tmps:Array Value):Prop:=
 ∀t v,((∃W,c8 W/\rp ao W=some t/\(∀oM,c8 oM->rp ao oM=some t->oM<=W)/\d1 an W=some v)\/((∀W,c8 W->rp ao W≠some t)/\e8 am t=true/\H.get t=some v))->
  tmps[t]? =some (aJ J v)/\b2 Y v
structure qv(C:aM)(J:cQ)(Y:Nat->Prop)(h:R ag)(base n am:Nat)(ao:Array Oper)(an:List (Nat×z))(o m:Nat)(H:R z)(tmps:Array Value)(c8:Nat->Prop):Prop where
 st:o7 C n am ao
 size:tmps.size=n
 Ma:o<=(gc C n am ao).length
 dH:C.a6<=base
 closed:AU ao c8
 vy:∀i,c8 i->i<ao.size
 done:∀p a,(gc C n am ao)[p]? =some a->(c8 a.1.i↔p<o)
 sZ:∀k∈lj C n am ao,c8 k.x.i->k.bL<m
 keys:∀i aa,d1 an i=some aa->(∃k∈lj C n am ao,k.x.i=i/\k.bL<m)\/(∃p a,(gc C n am ao)[p]? =some a/\a.1.i=i/\p<o)
 t7:∀p a,(gc C n am ao)[p]? =some a->p<o->∃aa,d1 an a.1.i=some aa
 ahead:∀k∈lj C n am ao,k.bL<m->∃aa,d1 an k.x.i=some aa/\(¬c8 k.x.i->JI C Y h base an H k.x aa)
 Bi:xW J Y am ao c8 an H tmps
 ids:∀i,i<ao.size->Y (base+i)->c8 i
 free:∀i,i<ao.size->d1 an i=none->Z C h (base+i)=none
section
variable{C:aM}{J cX:cQ}{Y dg:Nat->Prop}{h S:R ag}{j aq bd:Nat}{w bO:World}
def od.ad{am:Nat}{X:Nat->Prop}{wr:List (Nat×Nat)}{an:List (Nat×z)}{H:R z}{tmps:Array Value}(dt:∀b,Y b->cX b=J b)(f1:∀b,Y b->dg b)(a:od J Y am X wr an H tmps):od cX dg am X wr an H tmps:=
 λt v af bt=>by
  obtain⟨I,M⟩:=a t v af bt
  exact⟨by rw[I,pR dt M],ou f1 v M⟩
def xW.ad{am:Nat}{ao:Array Oper}{c8:Nat->Prop}{an:List (Nat×z)}{H:R z}{tmps:Array Value}(dt:∀b,Y b->cX b=J b)(f1:∀b,Y b->dg b)(a:xW J Y am ao c8 an H tmps):xW cX dg am ao c8 an H tmps:=
 λt v bt=>by
  obtain⟨I,M⟩:=a t v bt
  exact⟨by rw[I,pR dt M],ou f1 v M⟩
def re.ad(dt:∀b,Y b->cX b=J b)(f1:∀b,Y b->dg b)(a:re C J Y):re C cX dg:=λg bX=>by
 obtain⟨I,M,ak⟩:=a g bX
 exact⟨f1 g I,by rw[dt g I];exact M,by rw[dt g I];exact ak⟩
def qv.ad{c0 base n am o m:Nat}{ao:Array Oper}{an:List (Nat×z)}{H:R z}{tmps:Array Value}{c8:Nat->Prop}(af:hZ C c0 J Y h bd w cX dg S bO)(az:base+ao.size<=c0)
 (a:qv C J Y h base n am ao an o m H tmps c8):qv C cX dg S base n am ao an o m H tmps c8:=by
 have EE:∀i,i<ao.size->dg (base+i)->c8 i:=λi aE aI=>(af.new _ aI).elim (a.ids i aE) (λal=>Zo)
 refine⟨a.st,a.size,a.Ma,a.dH,a.closed,a.vy,a.done,a.sZ,a.keys,a.t7, ?_,a.Bi.ad af.ic af.i6,EE, ?_⟩
 ·intro k gY mw
  obtain⟨aa,I,M⟩:=a.ahead k gY mw
  refine⟨aa,I,λbZ=> ?_⟩
  obtain⟨ak,jU,b,aA,bq,bV,c2⟩:=M bZ
  refine⟨ak,jU,b,aA,bq,bV,λaj=> ?_⟩
  obtain⟨eg,hf,jX⟩:=c2 aj
  refine⟨eg,λaG=> ?_,jX⟩
  obtain⟨cE,nH,sF⟩:=hf aG
  refine⟨cE,nH, ?_⟩
  have cO:=Kr a.st gY
  rw[af.ad _ (λaI=>bZ (a.ids _ cO aI)) Zo]
  exact sF
 ·intro i aE bt
  rw[af.ad _ ?_ Zo]
  ·exact a.free i aE bt
  ·intro aI
   have bZ:=a.ids i aE aI
   rcases Wi a.st i aE with ⟨k,p7,lZ⟩|⟨p,e,av,F⟩
   ·obtain⟨aa,aU,_⟩:=a.ahead k p7 (a.sZ k p7 (by rw[lZ];exact bZ))
    rw[lZ,bt]at aU;cases aU
   ·obtain⟨aa,aU⟩:=a.t7 p e av ((a.done p e av).1 (by rw[F];exact bZ))
    rw[F,bt]at aU;cases aU
end
end Go.bp

