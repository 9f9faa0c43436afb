/- Part 2 of a proof. No conditions. -/
import Derived.Test.YtllggmkhjhjkpaaGreatDoorLs1
import Derived.RangeFuncOwn
import Derived.RangeFuncNested
import Derived.Laws.Append
set_option maxRecDepth 100000
set_option linter.unusedVariables false
set_option linter.unusedSimpArgs false
namespace Go.Sx
inductive mL where|op (o:ia)|yld (t:Nat) (dst:Option Nat) (xs:List fM)|yldG (d:Nat) (want:Bool) (t:Nat) (dst:Option Nat) (xs:List fM)
inductive ik where|skip|reg (ops:List mL)|draw (ds:List hJ)|drawY (ds:List hJ) (xs:List mL)|seq (a b:ik)|cond (c:fM) (a b:ik)|block (id:Nat) (b:ik)|loop (b:ik)|exit (id:Nat)|ret|scope (b:ik)
structure gX where
 f:FuncId
 ntmps:Nat
 body:ik
inductive gt where|skip|reg (ops:List ia)|draw (ds:List hJ)|allo (t:OT)|alloq (t:OT)|seq (a b:gt)|cond (c:fM) (a b:gt)|block (id:Nat) (b:gt)|loop (b:gt)|exit (id:Nat)|ret|scope (b:gt)|range (g:fM) (ps:List Nat) (asg body:gt) (CJ:List gX)
def Se (o:Oper):Option (Nat×List fM) :=
 match o.guard,o.op with
 |none,.call c=>match c.callee with|.value (.tmp t)=>some (t,c.args.toList.map be)|_=>none
 |_,_=>none
def pz (ops:Array Oper) (o:Oper):Option (Nat×Bool×Nat×List fM) :=
 match o.guard,o.op with
 |some (j,want),.call c=>match c.callee,(ops[j]?).bind (·.dst) with|.value (.tmp t),some d=>some (d,want,t,c.args.toList.map be)|_,_=>none
 |_,_=>none
def jJ (P:Program) (BD:List TypeId) (ops:Array Oper):List Oper->Option (List mL)
 |[]=>some []
 |o::l=>match jJ P BD ops l with
   |none=>none
   |some xs=>match Se o with
     |some (t,az)=>some (.yld t o.dst az::xs)
     |none=>match pz ops o with
       |some (d,want,t,az)=>some (.yldG d want t o.dst az::xs)
       |none=>match ke P BD ops o with|some x=>some (.op x::xs)|none=>none
def wb (ops:Array Oper):Nat->Nat->Array Bool->Bool
 |0,_,listed=>(Region.ready .any ops listed).isEmpty|f+1,k,listed=>Region.ready .any ops listed==[k]&&wb ops f (k+1) (listed.setIfInBounds k true)
def uX (n At:Nat):Array Bool:=((List.range n).map λi=>Nat.blt i At).toArray
def Dr (ops:Array Oper):Bool:=(List.range ops.size).all λi=>match ops[i]? with
 |some o=>o.after.toList.all λe=>!Region.binds .any e||Nat.blt e.on i
 |none=>true
def Lk (ops:Array Oper) (At:Nat):Bool:=((List.range At).all λj=>Dl ops ops.size At j)&&(List.range ops.size).all λk=>Nat.ble k At||Dl ops ops.size k At
def rK (P:Program) (BD:List TypeId) (ops:Array Oper) (At:Nat):Option (List hJ×List mL) :=
 match fq P BD ops (ops.toList.take At),jJ P BD ops (ops.toList.drop At) with
 | some xs,some CJ=>if P.follows .mixedOrders&&pN (ops.toList.take At).toArray (gS (ops.toList.take At).toArray xs (cz xs 0) xs 0)&&xP (ops.toList.take At).toArray (gS (ops.toList.take At).toArray xs (cz xs 0) xs 0).length 0 (Array.replicate ops.size false)&&(gS (ops.toList.take At).toArray xs (cz xs 0) xs 0).length==At&&Nat.ble At ops.size &&
    (gS (ops.toList.take At).toArray xs (cz xs 0) xs 0).all (λd=>Un d.o.op||d.ws.isEmpty)&&Dr ops&&Lk ops At&&wb ops (ops.size-At) At (uX ops.size At) then some (gS (ops.toList.take At).toArray xs (cz xs 0) xs 0,CJ) else none
 |_,_=>none
def hoz (ops:Array Oper):Option Nat:=ops.toList.findIdx? λo=>(Se o).isSome||(pz ops o).isSome
def jr (P:Program) (BD:List TypeId):Code->Option ik
 |.skip=>some .skip|.label _=>some .skip|.region _ ops false=>(jJ P BD ops ops.toList).map .reg
 |.region _ ops true=>match hoz ops with|none=>(pL P BD ops).map .draw|some At=>(rK P BD ops At).map λp=>.drawY p.1 p.2
 |.seq a b=>match jr P BD a,jr P BD b with|some x,some At=>some (.seq x At)|_,_=>none
 |.cond c a b=>match jr P BD a,jr P BD b with|some x,some At=>some (.cond (be c) x At)|_,_=>none
 |.block id b=>(jr P BD b).map (.block id)|.loop b=>(jr P BD b).map .loop|.exit id=>some (.exit id)|.ret=>some .ret|.scope b=>(jr P BD b).map .scope|_=>none
def pW (P:Program) (BD:List TypeId) (fn:Func):Option (Nat×ik) :=
 match fn.body,fn.results.toList with
 |some c,[]=>(jr P BD c).map λx=>(fn.ntmps,x)
 |_,_=>none
def cW (P:Program) (BD:List TypeId) (CJ:List gX):Code->Option gt
 |.skip=>some .skip|.label _=>some .skip|.region _ ops false=>(fq P BD ops ops.toList).map .reg
 |.region _ ops true=>match zt P BD ops with
   |some t=>some (.allo t)
   |none=>match rr P BD ops with|some t=>some (.alloq t)|none=>(pL P BD ops).map .draw
 |.seq a b=>match cW P BD CJ a,cW P BD CJ b with|some x,some At=>some (.seq x At)|_,_=>none
 |.cond c a b=>match cW P BD CJ a,cW P BD CJ b with|some x,some At=>some (.cond (be c) x At)|_,_=>none
 |.block id b=>(cW P BD CJ b).map (.block id)|.loop b=>(cW P BD CJ b).map .loop|.exit id=>some (.exit id)|.ret=>some .ret|.scope b=>(cW P BD CJ b).map .scope
 |.rangeFunc g ps a b=>match cW P BD CJ a,cW P BD CJ b with|some x,some At=>some (.range (be g) ps.toList x At CJ)|_,_=>none
 |_=>none
def sZ (next:List ah->List av->Prop) (X4:Ex->List ah->List av->Prop):Ex->List ah->List av->Prop
 |.normal,sl,lh=>next sl lh
 |.exit i,sl,lh=>X4 (.exit i) sl lh|.ret,sl,lh=>X4 .ret sl lh
def uG (id:Nat) (X4:Ex->List ah->List av->Prop):Ex->List ah->List av->Prop
 |.normal,sl,lh=>X4 .normal sl lh|.exit i,sl,lh=>if i=id then X4 .normal sl lh else X4 (.exit i) sl lh
 |.ret,sl,lh=>X4 .ret sl lh
def AU:List gX->FuncId->Option gX
 |[],_=>none|x::l,f=>if f=x.f then some x else AU l f
def jh (l:Nat):ah:=.raw (.func (.yield l) #[] #[])
def kA:List ah->List Nat->List ah->List ah
 |sl,p::ps,x::xs=>kA (sl.set p x) ps xs|sl,_,_=>sl
abbrev YH:=List ah->List av->(Ex->List av->Prop)->Prop
abbrev IQ:=Ex->List ah->List av->Option Ex->Prop
def TW (K:List ah->List av->Option Ex->Prop) (sl:List ah) (d:Option Nat):Ex->List av->Prop
 |.normal,lh=>K (eH sl d (.bool true)) lh none|x,lh=>K (eH sl d (.bool false)) lh (some x)
def cu (w0:World) (Uc:FuncId->bT) (l:Nat) (Y:YH):List mL->List ah->List av->Option Ex->(List ah->List av->Option Ex->Prop)->Prop
 |[],sl,lh,g,K=>K sl lh g|.op o::rest,sl,lh,g,K=>ff w0 Uc [o] sl lh λsl lh=>cu w0 Uc l Y rest sl lh g K
 |.yld t d xs::rest,sl,lh,g,K=>g=none/\sl.getD t .any=jh l/\Y (xs.map (arg sl)) lh (TW (λsl lh g=>cu w0 Uc l Y rest sl lh g K) sl d)
 |.yldG d want t dst xs::rest,sl,lh,g,K=>match sl.getD d .any with
   | .bool b=>(b=want->g=none/\(sl.set d (.bool want)).getD t .any=jh l/\Y (xs.map (arg (sl.set d (.bool want)))) lh (TW (λsl lh g=>cu w0 Uc l Y rest sl lh g K) (sl.set d (.bool want)) dst)) /\
      (b=!want->cu w0 Uc l Y rest (eH (sl.set d (.bool (!want))) dst (.tup [])) lh g K)
   |.tup vs=>cu w0 Uc l Y rest (eH (sl.set d (.tup vs)) dst (.tup [])) lh g K|.int ..=>cu w0 Uc l Y rest (eH sl dst (.tup [])) lh g K|_=>False
def ybh (next:List ah->List av->Option Ex->Prop) (X4:IQ):IQ
 |.normal,sl,lh,g=>next sl lh g
 |.exit i,sl,lh,g=>X4 (.exit i) sl lh g|.ret,sl,lh,g=>X4 .ret sl lh g
def u3 (id:Nat) (X4:IQ):IQ
 |.normal,sl,lh,g=>X4 .normal sl lh g|.exit i,sl,lh,g=>if i=id then X4 .normal sl lh g else X4 (.exit i) sl lh g
 |.ret,sl,lh,g=>X4 .ret sl lh g
def kh (w0:World) (Uc:FuncId->bT) (l:Nat) (Y:YH):ik->List ah->List av->Option Ex->IQ->Prop
 |.skip,sl,lh,g,X4=>X4 .normal sl lh g|.reg ops,sl,lh,g,X4=>cu w0 Uc l Y ops sl lh g (X4 .normal)|.draw ds,sl,lh,g,X4=>ma w0 Uc ds sl lh λsl lh=>X4 .normal sl lh g
 |.drawY ds xs,sl,lh,g,X4=>ma w0 Uc ds sl lh λsl lh=>cu w0 Uc l Y xs sl lh g (X4 .normal)
 |.seq a b,sl,lh,g,X4=>kh w0 Uc l Y a sl lh g (ybh (λsl lh g=>kh w0 Uc l Y b sl lh g X4) X4)
 |.cond c a b,sl,lh,g,X4=>match arg sl c with|.bool t=>(t=true->kh w0 Uc l Y a sl lh g X4)/\(t=false->kh w0 Uc l Y b sl lh g X4)|_=>False
 |.block id b,sl,lh,g,X4=>kh w0 Uc l Y b sl lh g (u3 id X4)
 | .loop b,sl,lh,g,X4=>∃ (ι:Type) (shs:ι->List ah) (shl:ι->List av) (shg:ι->Option Ex) (μ:ι->Nat) (i0:ι),sl=shs i0/\lh=shl i0/\g=shg i0 /\
    ∀i,kh w0 Uc l Y b (shs i) (shl i) (shg i) (ybh (λsl' lh' g'=>∃i',sl'=shs i'/\lh'=shl i'/\g'=shg i'/\μ i'<μ i) X4)
 |.exit id,sl,lh,g,X4=>X4 (.exit id) sl lh g|.ret,sl,lh,g,X4=>X4 .ret sl lh g|.scope b,sl,lh,g,X4=>kh w0 Uc l Y b sl lh g X4
def TL (X4:Ex->List ah->List av->Prop) (sl:List ah):IQ
 |.exit _,_,_,_=>False|_,_,lh,none=>X4 .normal sl lh|_,_,lh,some x=>X4 x sl lh
def cm (w0:World) (Uc:FuncId->bT) (nb:Nat):gt->List ah->List av->(Ex->List ah->List av->Prop)->Prop
 |.skip,sl,lh,X4=>X4 .normal sl lh|.reg ops,sl,lh,X4=>ff w0 Uc ops sl lh (X4 .normal)|.draw ds,sl,lh,X4=>ma w0 Uc ds sl lh (X4 .normal)|.allo t,sl,lh,X4=>oq w0 Uc t sl lh (X4 .normal)|.alloq t,sl,lh,X4=>oq w0 (wu Uc) t sl lh (X4 .normal)|.seq a b,sl,lh,X4=>cm w0 Uc nb a sl lh (sZ (λsl lh=>cm w0 Uc nb b sl lh X4) X4)
 |.cond c a b,sl,lh,X4=>match arg sl c with|.bool t=>(t=true->cm w0 Uc nb a sl lh X4)/\(t=false->cm w0 Uc nb b sl lh X4)|_=>False
 |.block id b,sl,lh,X4=>cm w0 Uc nb b sl lh (uG id X4)
 | .loop b,sl,lh,X4=>∃ (ι:Type) (shs:ι->List ah) (shl:ι->List av) (μ:ι->Nat) (i0:ι),Sub nb sl lh (shs i0) (shl i0) /\
    ∀i,cm w0 Uc nb b (shs i) (shl i) (sZ (λsl' lh'=>∃i',Sub nb sl' lh' (shs i') (shl i')/\μ i'<μ i) X4)
 |.exit id,sl,lh,X4=>X4 (.exit id) sl lh|.ret,sl,lh,X4=>X4 .ret sl lh|.scope b,sl,lh,X4=>cm w0 Uc nb b sl lh X4
 |.range g ps asg body CJ,sl,lh,X4=>match arg sl g with
   |.fn (.func f) [] ys=>match AU CJ f with
     | some it=>∀ l,kh w0 Uc l (λxs lh K=>xs.length=ps.length/\cm w0 Uc lh.length asg (kA sl ps xs) lh (sZ (λsl lh'=>cm w0 Uc lh.length body sl lh' λx _ lh=>K x lh) λ_ _ _=>False)) it.body
        (jh l::ys++List.replicate (it.ntmps-(ys.length+1)) .any) lh none (TL X4 sl)
     |none=>False
   |_=>False
def O6:Ex->Exit
 |.normal=>.normal|.exit i=>.exit i|.ret=>.ret
def jq (B:dj):List Deferred->World->Prop
 |[],_=>True|d::ds,w=>∃Bp,d={ target:=.collected Bp,args:=#[] }/\w.heap[Bp]? = some (.deferred (some []))/\(B.wf.heap.size<=Bp/\B.w0.heap.size<=Bp)/\(∀d'∈ds,d'.target≠.collected Bp)/\jq B ds w
theorem jq.keeps {B:dj} {w w':World} (hk:∀ (Bp:Nat) (o:Option (List Deferred)),w.heap[Bp]? = some (Obj.deferred o)->w'.heap[Bp]? = some (Obj.deferred o)):∀ {ds:List Deferred},jq B ds w->jq B ds w'
 |[],_=>trivial|_::_,⟨Bp,N,Q,h3,h4,h5⟩=>⟨Bp,N,hk _ _ Q,h3,h4,jq.keeps hk h5⟩
theorem jq.old {B:dj} {w:World} {Bp:Nat}:∀ {ds:List Deferred},jq B ds w->(∀ o:Option (List Deferred),w.heap[Bp]? ≠ some (Obj.deferred o))->∀ d'∈ds,d'.target≠.collected Bp
 |[],_,_,d',hd=>by cases hd
 |d::ds,⟨D',N,Q,_,_,h4⟩,hn,d',hd=>by
   rcases List.mem_cons.1 hd with rfl|hd
   ·rw[N];intro e;cases e;exact hn _ Q
   ·exact jq.old h4 hn d' hd
theorem nh {B:dj} {w w':World} (hk:KeepsOthers w w') {ds:List Deferred} (h:jq B ds w):jq B ds w':=h.keeps λBp _ hD=>hk.same Bp _ hD rfl
def SR (B:dj) (m:aJ) (sl:List ah) (lh:List av) (a:Act) (w:World):Prop:=aC m sl a.tmps.toList/\jq B a.defers w/\ba B m lh w
def dj.at (B:dj) (m:aJ) (lh:List av) (w:World) (ds:List Deferred):dj:=⟨B.w0,w,λb=>∃k cs ty,lh[k]? = some (.cells cs ty)/\m k=some b,ds⟩
theorem ba.rebase {B:dj} {m:aJ} {lh:List av} {w:World} (h:ba B m lh w) (ds:List Deferred):ba (B.at m lh w ds) m lh w :=
 ⟨rfl,rfl,rfl,h.size,h.old,Dm _,λ_ _ _=>rfl,λk cs ty hk=>let ⟨b,vs,N,Q,h3,h4,_⟩:=h.loc k cs ty hk;⟨b,vs,N,Q,h3,h4,.inr ⟨k,cs,ty,hk,N⟩⟩,h.inj,h.dom,h.dead,h.rng⟩
theorem ba.withDs {B:dj} {m:aJ} {lh:List av} {w:World} (h:ba B m lh w) (ds:List Deferred):ba { B with ds:=ds } m lh w :=
 ⟨h.os,h.tape,h.output,h.size,h.old,h.fsize,h.kept,h.loc,h.inj,h.dom,h.dead,h.rng⟩
theorem ba.noDs {B:dj} {m:aJ} {lh:List av} {w:World} {ds:List Deferred} (h:ba { B with ds:=ds } m lh w):ba B m lh w :=
 ⟨h.os,h.tape,h.output,h.size,h.old,h.fsize,h.kept,h.loc,h.inj,h.dom,h.dead,h.rng⟩
theorem ba.unbase {B:dj} {m m':aJ} {lh lh':List av} {w w':World} {ds:List Deferred} (h:ba B m lh w) (h':ba (B.at m lh w ds) m' lh' w'):ba B m' lh' w'/\KeepsOthers w w':=by
 have hown:∀ b,(∃ k cs ty,lh[k]? = some (.cells cs ty)/\m k=some b)->B.wf.heap.size<=b∨B.own b:=λb ⟨k,cs,ty,N,Q⟩=>by
  let ⟨b',vs,g1,_,_,_,g2⟩:=h.loc k cs ty N
  rw[Q]at g1;cases g1;exact g2
 refine⟨⟨h'.os.trans h.os,h'.tape.trans h.tape,h'.output.trans h.output,h'.size,h'.old,Jc h.fsize h'.fsize,λb hb ho=>?_,λk cs ty hk=>?_,h'.inj,h'.dom,h'.dead,h'.rng⟩,⟨h'.fsize,λk o hk ho=>?_⟩⟩
 ·rw[h'.kept b (LI hb h.fsize) (λhn=>by rcases hown b hn with N|N;exact absurd hb I;exact ho N)];exact h.kept b hb ho
 ·let ⟨b,vs,N,Q,h3,h4,h5⟩:=h'.loc k cs ty hk
  refine⟨b,vs,N,Q,h3,h4,?_⟩;rcases h5 with h5|h5
  ·exact .inl (Jc h.fsize h5)
  ·exact hown b h5
 ·refine(h'.kept k (Array.getElem?_eq_some_iff.1 hk).1 (λ⟨k',cs,ty,N,Q⟩=>?_)).trans hk
  let ⟨b',vs,g1,_,g3,_⟩:=h.loc k' cs ty N
  rw[Q]at g1;cases g1;rw[hk]at g3;cases g3;cases ho
def QC (B:dj) (nb:Nat) (lh0:List av) (m0:aJ) (w1:World) (X4:Ex->List ah->List av->Prop) (e:Exit) (a:Act) (w:World):Prop :=
 ∃x sl lh m,e=O6 x/\SR B m sl lh a w/\mO nb lh0 m0 lh m/\KeepsOthers w1 w/\X4 x sl lh
section
variable {P:Program} {B:dj} {Uc:FuncId->bT} {BD:List TypeId} {F:Fence} {n nb:Nat}
theorem QC.of {lh0:List av} {m0:aJ} {lh:List av} {m:aJ} {w0 w1:World} {X4 Q':Ex->List ah->List av->Prop} {e:Exit} {a:Act} {w:World} (he:mO nb lh0 m0 lh m) (hk:KeepsOthers w0 w1) (hq:∀ x sl lh,X4 x sl lh->Q' x sl lh)
 (h:QC B nb lh m w1 X4 e a w):QC B nb lh0 m0 w0 Q' e a w:=by
 let ⟨x,sl,lh',m',N,Q,h3,h4,h5⟩:=h
 exact⟨x,sl,lh',m',N,Q,he.trans h3,hk.trans h4,hq _ _ _ h5⟩
theorem C23 {c:Code} {X4:Exit->Act->World->Prop} {a:Act} {w:World} (hQ:∀ l a w,¬ X4 (.goto l) a w) (h:c.wpIn F n P X4 a w):(Code.scope c).wpIn F n P X4 a w:=by
 intro b k cs gu hb hr;have h0:(lone (b.atR a (.code (.scope c)::k)) cs w).fenced P F:=fenced_calm hb hr rfl;have hstep:∀{a:Act} {w:World},step P (lone (b.atR a (.code (.scope c)::k)) cs w)=.next (lone (b.atR a (.code c::.inScope c::k)) cs w):=λ{a w}=>step_lone_go (by simp[stepG,stepG.exec,Frame.atR]);have hend:∀{a:Act} {w:World},step P (lone (b.atR a (.inScope c::k)) cs w)=.next (lone (b.atR a k) cs w):=λ{a w}=>step_lone_go (by simp[stepG,stepG.exec,Frame.atR])
 let ⟨e,a₁,w₁,hq,harr⟩:=h b (.inScope c::k) cs gu hb hr
 have hx:∀id,exitTo id (.inScope c::k)=exitTo id k:=λid=>by simp[exitTo]
 cases e with
 |normal=>exact⟨.normal,a₁,w₁,hq,.head h0 hstep (StepsIn.trans harr (.one (fenced_calm hb hr rfl) hend))⟩
 |exit id=>exact⟨.exit id,a₁,w₁,hq,λk' hk=>.head h0 hstep (harr.1 k' (by rw[hx];exact hk)),λca hk=>let ⟨yao,g1,g2⟩:=harr.2 ca (by rw[hx];exact hk);⟨yao,g1,.head h0 hstep g2⟩⟩
 |goto l=>exact(hQ l _ _ hq).elim|ret=>exact⟨_,a₁,w₁,hq,.of_steps (.one h0 hstep) harr⟩|panic x25=>exact⟨_,a₁,w₁,hq,.of_steps (.one h0 hstep) harr⟩|outgrown=>exact⟨_,a₁,w₁,hq,.of_steps (.one h0 hstep) harr⟩
theorem C44 {c:Code} {X4:Exit->Act->World->Prop} {a:Act} {w:World} (XY:Nat->Act->World->Prop) (yae:∃ k,XY k a w)
 (round:∀k a w,XY k a w->c.wpIn F n P (Exit.then (λa' w'=>∃k',k'<k/\XY k' a' w') X4) a w):(Code.loop c).wpIn F n P X4 a w:=by
 intro b k cs gu hb hr;have key:∀ j a w,XY j a w->∃ e a' w',X4 e a' w'/\ArrivesIn (Machine.fenced P F) P (lone (b.atR a (.code c::.inLoop c::k)) cs w) b k cs e a' w':=by
  intro j;induction j using Nat.strongRecOn with
  |_ j ih=>
    intro a w hI
    let ⟨e,a₁,w₁,hq,harr⟩:=round j a w hI b (.inLoop c::k) cs gu hb hr
    cases e with
    |normal=>
      let ⟨k',XD,hI₁⟩:=hq
      let ⟨x28,x23,yau,hq₂,harr₂⟩:=ih k' XD a₁ w₁ hI₁
      exact⟨x28,x23,yau,hq₂,.of_steps (StepsIn.trans harr (.one (fenced_calm hb hr rfl) stepR_inLoop)) harr₂⟩
    |exit id=>exact⟨_,a₁,w₁,hq,.pass (x:=.inLoop c) rfl (λ_ _=>.inl aD) harr⟩|goto l=>exact⟨_,a₁,w₁,hq,.pass (x:=.inLoop c) rfl (λ_ _=>.inl aD) harr⟩|ret=>exact⟨_,a₁,w₁,hq,.pass (x:=.inLoop c) rfl (λ_ _=>.inl aD) harr⟩|panic x25=>exact⟨_,a₁,w₁,hq,.pass (x:=.inLoop c) rfl (λ_ _=>.inl aD) harr⟩|outgrown=>exact⟨_,a₁,w₁,hq,.pass (x:=.inLoop c) rfl (λ_ _=>.inl aD) harr⟩
 let ⟨k0,h0⟩:=yae
 let ⟨e,a',w',hq,harr⟩:=key k0 a w h0
 exact⟨e,a',w',hq,.of_steps (.one (fenced_calm hb hr rfl) stepR_loop) harr⟩
def X3:Ex->Code
 |.normal=>.skip|.exit i=>.exit i|.ret=>.ret
def Er:Ex->Option Ex
 |.normal=>none|x=>some x
structure KB (l:Nat) (XI W':World):Prop where
 size:XI.heap.size<=W'.heap.size
 same:∀(k:Nat) (o:Obj),k≠l->XI.heap[k]? = some o->o.isCells=false->W'.heap[k]? = some o
theorem KB.refl (l:Nat) (XI:World):KB l XI XI:=⟨Dm _,λ_ _ _ h _=>h⟩
theorem KB.keeps {l:Nat} {XU XI W':World} (h:KB l XU XI) (k:KeepsOthers XI W'):KB l XU W':=⟨Jc h.size k.size,λi o hi ho hc=>k.same i o (h.same i o hi ho hc) hc⟩
theorem KB.put {l:Nat} {XU XI:World} (h:KB l XU XI) (o:Obj):KB l XU (XI.putObj l o):=⟨by simpa using h.size,λi o' hi ho hc=>(World.putObj_heap_other hi).trans (h.same i o' hi ho hc)⟩
def FL (l:Nat) (rec:LoopState->Option Code->Loop) (g:Option Ex) (w:World):Prop:=w.heap[l]? = some (.loop (rec (if g.isNone then .ready else .done) (g.map X3)))
theorem ba.putObj {m:aJ} {lh:List av} {w:World} (h:ba B m lh w) {l:Nat} {o:Obj} (hl:w.heap[l]? = some o) (ho:o.isCells=false) (hf:B.wf.heap.size<=l) (h0:B.w0.heap.size<=l) (o':Obj):ba B m lh (w.putObj l o'):=by
 refine⟨h.os,h.tape,h.output,by simpa using h.size,λb hb=>(World.putObj_heap_other I).trans (h.old b hb),by simpa using h.fsize,λb hb ho=>(World.putObj_heap_other I).trans (h.kept b hb ho),λk cs ty hk=>?_,h.inj,h.dom,h.dead,λk b hk=>by simpa using h.rng k b hk⟩
 let ⟨b,vs,N,Q,h3,h4,h5⟩:=h.loc k cs ty hk
 refine⟨b,vs,N,Q,(World.putObj_heap_other (λe=>?_)).trans h3,h4,h5⟩;subst e;rw[hl]at h3;cases h3;cases ho
theorem BZ {lh lh':List av} {m m':aJ} {w:World} (h:ba B m lh w) (he:mO lh.length lh m lh' m'):iq lh m lh' m':=by
 refine⟨λk b hk=>he.1 k b ?_ hk,λk hk=>he.2 k (List.getElem?_eq_some_iff.1 hk).1 hk⟩;rcases M3 k lh.length with XD|Z1
 ·exact XD
 ·rw[h.dom k Z1]at hk;cases hk
structure IR (B:dj) (l:Nat) (rec:LoopState->Option Code->Loop) (W1:World) (lh0:List av) (m0:aJ) (m:aJ) (sl:List ah) (lh:List av) (g:Option Ex) (a:Act) (w:World):Prop where
 vs:aC m sl a.tmps.toList
 df:a.defers=[]
 hh:ba B m lh w
 ext:iq lh0 m0 lh m
 rc:FL l rec g w
 kb:KB l W1 w
def YS (B:dj) (F:Fence) (n:Nat) (P:Program) (l:Nat) (rec:LoopState->Option Code->Loop) (W1:World) (lh0:List av) (m0:aJ) (Y:YH):Prop :=
 ∀ (m:aJ) (lh:List av) (w:World) (args:List ah) (vs:List Value) (K:Ex->List av->Prop),ba B m lh w->iq lh0 m0 lh m->FL l rec none w->KB l W1 w->aC m args vs->Y args lh K ->
  ∃fn tmps asg body,(Instr.yield l vs.toArray).run P w=.ok (.round l fn tmps asg body) w/\RoundIn F (n-1) P l fn tmps asg body w λe w'=>∃x m' lh',e=.returned (.bool (Er x).isNone)/\ba B m' lh' w'/\iq lh m lh' m'/\FL l rec (Er x) w'/\KB l W1 w'/\K x lh'
section it
variable {l:Nat} {rec:LoopState->Option Code->Loop} {W1:World} {lh0:List av} {m0:aJ} {Y:YH}
def QI (B:dj) (l:Nat) (rec:LoopState->Option Code->Loop) (W1:World) (lh0:List av) (m0:aJ) (X4:IQ) (e:Exit) (a:Act) (w:World):Prop :=
 ∃x sl lh m g,e=O6 x/\IR B l rec W1 lh0 m0 m sl lh g a w/\X4 x sl lh g
theorem IR.step {m m':aJ} {sl sl':List ah} {lh lh':List av} {g:Option Ex} {a a':Act} {w w':World} (h:IR B l rec W1 lh0 m0 m sl lh g a w) (hs:i9 (B.at m lh w []) m' sl' lh' a' w') (he:iq lh m lh' m'):IR B l rec W1 lh0 m0 m' sl' lh' g a' w':=by
 let ⟨N,Q⟩:=h.hh.unbase hs.2.2
 exact⟨hs.1,hs.2.1,N,h.ext.trans he,Q.same _ _ h.rc rfl,h.kb.keeps Q⟩
theorem R80 (hF:jT F) (hY:YS B F n P l rec W1 lh0 m0 Y) {X4:Exit->Act->World->Prop} {next:Act->World->Prop} {o:Oper} {c:Call} {t:Nat} {sl:List ah} {lh:List av} {m:aJ} {a:Act} {w:World} {K:Ex->List av->Prop}
 (hs:IR B l rec W1 lh0 m0 m sl lh none a w) (s3:sl.getD t .any=jh l) (y:Y ((c.args.toList.map be).map (arg sl)) lh K) (ho:o.op=.call c) (hcal:c.callee=.value (.tmp t))
 (ih:∀x lh' m' a' w',IR B l rec W1 lh0 m0 m' (eH sl o.dst (.bool (Er x).isNone)) lh' (Er x) a' w'->K x lh'->next a' w'):o.wpIn F n P a w next X4:=by
 refine⟨λf _=>hF.fn f,?_⟩;have hsem:o.semAt F.round a.eval=execOp a.eval o:=by
  unfold Oper.semAt;split
  ·rename_i Zm;rw[ho]at Zm;cases Zm
  ·rfl
 have hev:a.eval (.tmp t)=.func (.yield l) #[] #[]:=by have:=mj hs.vs t undef;rw[s3]at this;simp[jh,CL]at this;simpa[Act.eval] using this
 let ⟨fn,tmps,asg,body,hrun,hround⟩:=hY m lh w _ _ _ hs.hh hs.ext hs.rc hs.kb (gF hs.vs c.args.toList) y
 have hexec:(execOp a.eval o).run P w=.ok (.round l fn tmps asg body) w:=by
  simp only[execOp,ho];rw[ac (a:={ target:=.fn (.yield l) #[],args:=#[]++c.args.map a.eval }) (w':=w) (by simp only[resolve,hcal,hev];rfl)];simp only[invoke];have:#[]++c.args.map a.eval++#[]=(c.args.toList.map a.eval).toArray:=by apply Array.toList_inj.1;simp
  first
   |(rw[this];exact hrun)
   | (have e2:#[]++c.args.map a.eval=(c.args.toList.map a.eval).toArray:=by
       apply Array.toList_inj.1;simp
      rw[e2];exact hrun)
 rw[hsem,hexec,Oper.uponIn_round];refine⟨λe=>(by rw[hF.depth]at e;cases e),hround.mono λe w' ⟨x,m',lh',he,g1,g2,g3,g4,g5⟩=>?_⟩;subst he;have hp:∀ b,IR B l rec W1 lh0 m0 m' (eH sl o.dst (.bool b)) lh' (Er x) (a.put o.dst (.bool b)) w':=λb=>by
  refine⟨?_,by cases o.dst<;>exact hs.df,g1,hs.ext.trans g2,g3,g4⟩;rw[Bc];cases o.dst with
  |none=>exact cH g2.1 _ _ hs.vs|some d=>exact jH d (cH g2.1 _ _ hs.vs) (by simp[CL])
 refine ih x lh' m' _ w' ?_ g5;exact hp _
theorem kS {ops:Array Oper} (hF:jT F) (hS:∀ f,(Uc f).Ok P f) (hE:∀ t∈BD,dc P t) (hY:YS B F n P l rec W1 lh0 m0 Y) {X4:Exit->Act->World->Prop}:∀ (os:List Oper) (xs:List mL) (k:Nat) (sl:List ah) (lh:List av) (m:aJ) (g:Option Ex) (a:Act) (w:World) (K:List ah->List av->Option Ex->Prop),
 (∀j,os[j]? = ops[k+j]?)->jJ P BD ops os=some xs->cu B.w0 Uc l Y xs sl lh g K->IR B l rec W1 lh0 m0 m sl lh g a w ->
 (∀sl' lh' m' g' a' w',IR B l rec W1 lh0 m0 m' sl' lh' g' a' w'->K sl' lh' g'->X4 .normal a' w')->wpOpsIn F n P ops X4 (List.range' k os.length) a w
 |[],xs,k,sl,lh,m,g,a,w,K,_,hc,y,hs,hQ=>by simp[jJ,H2]at hc;subst hc;exact hQ _ _ _ _ _ _ hs y
 |o::os,xs,k,sl,lh,m,g,a,w,K,hl,hc,y,hs,hQ=>by
   have h0:ops[k]? = some o:=by simpa using(hl 0).symm
   have YM:∀j,os[j]? = ops[k+1+j]? := λj=>by have:=hl (j+1);simpa[N1,PD 1 j] using this
   simp[jJ]at hc;split at hc
   ·cases hc
   ·rename_i xs' Ys
    have ih:=λYp lh1 m1 g1 a1 w1 y hs=>kS hF hS hE hY os xs' (k+1) Yp lh1 m1 g1 a1 w1 K YM Ys y hs hQ;split at hc
    ·rename_i t az hy
     cases hc;simp[cu]at y;obtain⟨rfl,s3,y⟩:=y;unfold Se at hy;split at hy
     ·rename_i c hg ho
      split at hy
      ·rename_i t hcal;cases hy;simp[MN,O5,wpOpsIn,h0];rw[DL (by simp[Region.wanted,hg])];exact R80 hF hY hs s3 y ho hcal λx lh' m' a' w' N Q=>by cases x<;>exact ih _ _ _ _ _ _ Q N
      ·cases hy
     ·cases hy
    ·split at hc
     ·rename_i d want t az hy
      cases hc;simp[cu]at y;unfold pz at hy;split at hy
      ·rename_i j hsrc2 c hg ho
       split at hy
       ·rename_i t2 d2 hcal hd
        cases hy;simp[MN,O5,wpOpsIn,h0];have ab:i9 (B.at m lh w []) m sl lh a w:=⟨hs.vs,hs.df,hs.hh.rebase []⟩
        let ⟨y1,y2,y3⟩:=pH (ops:=ops) hs.vs hd
        split at y
        ·rename_i b hb
         have hyb:=y1 b hb;have Yc:=hs.step (fG ab hb) (iq.refl _ _);by_cases e₂:b=want
         ·subst e₂;obtain⟨rfl,s3,y⟩:=y.1 rfl;rw[DL (by simp[Region.wanted,hg,hyb])];exact R80 hF hY Yc s3 y ho hcal λx lh' m' a' w' N Q=>by cases x<;>exact ih _ _ _ _ _ _ Q N
         ·have eq:b=!want:=by cases b<;>cases want<;>simp_all
          rw[Ck (by simp[Region.wanted,hg,hyb,e₂])];refine⟨λf _=>hF.fn f,?_⟩;have hsr':=fG ab hb;rw[eq]at hsr';exact ih _ _ _ _ _ _ (y.2 eq) (hs.step (hsr'.put (aJ.le_refl m) (hs.hh.rebase []) o.dst (by simp[CL,aC,undef])) (iq.refl _ _))
        ·rename_i vs hb;rw[Ck (by simp[Region.wanted,hg,y2 _ hb])];refine⟨λf _=>hF.fn f,?_⟩;exact ih _ _ _ _ _ _ y (hs.step ((fG ab hb).put (aJ.le_refl m) (hs.hh.rebase []) o.dst (by simp[CL,aC,undef])) (iq.refl _ _))
        ·rename_i hb;rw[Ck (by simp[Region.wanted,hg,y3 _ _ hb])];refine⟨λf _=>hF.fn f,?_⟩;exact ih _ _ _ _ _ _ y (hs.step (ab.put (aJ.le_refl m) (hs.hh.rebase []) o.dst (by simp[CL,aC,undef])) (iq.refl _ _))
        ·exact y.elim
       ·cases hy
      ·cases hy
     split at hc
     ·rename_i x hx
      cases hc;simp[cu]at y;have hj0:∀ j,j<[o].length->[o][j]? = ops[k+j]? := λj hj=>by
       obtain rfl:j=0:=by simpa using hj
       simpa using hl 0
      have:=nr (n:=n) (ops:=ops) (B:=B.at m lh w []) (X4:=X4) hF (λf=>(hS f).sound) hE (List.range' (k+1) os.length) [o] [x] k sl lh m a w _ hj0 (by simp[fq,hx]) y ⟨hs.vs,hs.df,hs.hh.rebase []⟩ (λsl' lh' m' a' w' N Q h3=>ih _ _ _ _ _ _ h3 (hs.step N Q));simpa[O5] using this
     ·cases hc
theorem R67 {ops:Array Oper} {X4:Exit->Act->World->Prop}:∀ (f k fuel:Nat) (listed:Array Bool) (a:Act) (w:World),f<=fuel->wb ops f k listed=true->wpOpsIn F n P ops X4 (List.range' k f) a w->wpAnyIn F n P .any ops X4 fuel listed a w
 |0,k,fuel,listed,a,w,_,ht,h=>by
   have hr:Region.ready .any ops listed=[]:=by simpa[wb] using ht
   cases fuel with
   |zero=>exact⟨hr,h⟩|succ fuel=>exact⟨λ_=>h,λi hi=>by rw[hr]at hi;cases hi⟩
 |f+1,k,0,listed,a,w,hf,_,_=>by omega
 |f+1,k,fuel+1,listed,a,w,hf,ht,h=>by
   simp[wb,DD,K8]at ht;refine⟨λe=>(by rw[ht.1]at e;cases e),λi hi=>?_⟩;rw[ht.1]at hi;obtain rfl:i=k:=by simpa using hi
   simp[O5,wpOpsIn_cons]at h;exact wpOpIn_mono (λa w h=>R67 f (i+1) fuel _ a w I ht.2 h) h
theorem abo {n At:Nat} {XQ:Array Bool} (hs:XQ.size=n) (N:∀ i,i<At->XQ.getD i false=true) (Q:∀ i,At<=i->XQ.getD i false=false):XQ=uX n At:=by
 apply Array.ext
 ·simp[uX,hs]
 ·intro i hi YC
  have e:XQ.getD i false=XQ[i]:=by simp[hi]
  simp[uX,List.getElem_toArray,List.getElem_map,List.getElem_range];rw[← e];by_cases hy:i<At
  ·rw[N i hy];simp[Nat.blt_eq,hy]
  ·rw[Q i I];cases hb:Nat.blt i At with|false=>rfl|true=>exact(hy (by simpa[Nat.blt_eq] using hb)).elim
theorem F73 {ops:Array Oper} (hb:Dr ops=true) {At:Nat} (hy:At<=ops.size) {XQ:Array Bool} (hs:XQ.size=ops.size) (hr:Region.ready .any (ops.toList.take At).toArray XQ=[]):∀ i,i<At->XQ.getD i false=true:=by
 intro i;induction i using Nat.strongRecOn with
 |ind i ih=>
   intro hi;apply Classical.byContradiction;intro Yf;have XD:i<ops.size:=by omega
   have hm:i∈Region.ready .any (ops.toList.take At).toArray XQ:=by
    refine mem_ready.2 ⟨?_,ops[i],?_,λe he hbe=>?_⟩
    ·have:i<XQ.size:=by omega
     simp[S4,Qs this,Q5]at Yf ⊢;simpa using Yf
    ·simp[hi,XD]
    ·have N:=List.all_eq_true.1 hb i (by simpa using XD)
     rw[Qs XD]at N;have Q:=List.all_eq_true.1 N e (by simpa using he);rw[hbe]at Q;have h3:e.on<i:=by simpa[Nat.blt_eq] using Q
     exact ih e.on h3 I
   rw[hr]at hm;cases hm
theorem adu {ops:Array Oper} (hF:jT F) (hS:∀ f,(Uc f).Ok P f) (hE:∀ t∈BD,dc P t) {At H:Nat} {B:dj} {ds:List hJ} {Ws:List (List Nat)} {xs:List ia} (hc:fq P BD ops (ops.toList.take At)=some xs) (hd:∀ j:Nat,ds[j]?.map hJ.o=xs[j]?)
 (hb:Dr ops=true) (hdep:Lk ops At=true) (hy:At<=ops.size) {K:List ah->List av->Prop} {X4:Exit->Act->World->Prop} {lh0:List av} {m0:aJ} {r:Nat}
 (hQ:∀sl' lh' m' a' w' fuel,i9 B m' sl' lh' a' w'->iq lh0 m0 lh' m'->K sl' lh'->r<=fuel->wpAnyIn F n P .any ops X4 fuel (uX ops.size At) a' w') :
 ∀(fuel:Nat) (listed:Array Bool) (sl:List ah) (lh:List av) (m:aJ) (a:Act) (w:World),listed.size=ops.size->(∀i,At<=i->listed.getD i false=false)->fY ops listed->i9 B m sl lh a w->iq lh0 m0 lh m->Dh B.w0 Uc (ops.toList.take At).toArray ds Ws H K fuel listed sl lh->wpAnyIn F n P .any ops X4 (fuel+r) listed a w:=by
 intro fuel;induction fuel with
 |zero=>intro listed sl lh m a w YD hl ZC hs he h;rw[abo YD (F73 hb hy YD h.1) hl];exact hQ _ _ _ _ _ _ hs he h.2 I
 |succ fuel ih=>
   intro listed sl lh m a w YD hl ZC hs he h;by_cases hr:Region.ready .any (ops.toList.take At).toArray listed=[]
   ·rw[abo YD (F73 hb hy YD hr) hl];exact hQ _ _ _ _ _ _ hs he (h.1 hr) I
   ·let ⟨j,hj⟩:=List.exists_mem_of_ne_nil _ hr
    let ⟨wI,oj,a₂,hj3⟩:=mem_ready.1 hj
    have hget:∀ i o,(ops.toList.take At).toArray[i]? = some o->i<At/\ops[i]? = some o:=λi o hi=>by
     simp only[Q1,Ji]at hi;split at hi
     ·rename_i XD;exact⟨XD,by simpa using hi⟩
     ·cases hi
    let ⟨hjy,hoj'⟩:=hget j oj a₂
    have hjf:listed.getD j false=false:=by
     have:j<listed.size:=by rw[YD];exact(Array.getElem?_eq_some_iff.1 hoj').1
     simp[S4,Qs this,Q5]at wI ⊢;exact wI
    have Yu:∀ i,i∈Region.ready .any ops listed->i<At/\i∈Region.ready .any (ops.toList.take At).toArray listed:=λi hi=>by
     let ⟨hi1,oi,ZK,wB⟩:=mem_ready.1 hi
     unfold Lk at hdep;simp only[DD]at hdep;have XD:i<At:=by
      apply Classical.byContradiction;intro Z1;by_cases e:i=At
      ·subst e;have:=fk ZC ops.size i oi ZK wB (List.all_eq_true.1 hdep.1 j (by simpa using hjy));rw[hjf]at this;cases this
      ·have N:=List.all_eq_true.1 hdep.2 i (by simpa using(Array.getElem?_eq_some_iff.1 ZK).1)
       have Q:Nat.ble i At=false:=by
        cases hb:Nat.ble i At with
        |false=>rfl|true=>have:=HS hb;omega
       rw[Q,Bool.false_or]at N;have:=fk ZC ops.size i oi ZK wB N;rw[hl At (Dm _)]at this;cases this
     exact⟨XD,mem_ready.2 ⟨hi1,oi,by simpa[Ji,XD] using ZK,wB⟩⟩
    rw[show fuel+1+r=(fuel+r)+1 by omega];refine⟨λe=>?_,λi hi=>?_⟩
    ·have hm:j∈Region.ready .any ops listed:=mem_ready.2 ⟨wI,oj,hoj',hj3⟩;have e':Region.ready .any ops listed=[]:=e;rw[e']at hm;cases hm
    ·have YC:i∈Region.ready .any ops listed:=hi
     let ⟨hiy,wH⟩:=Yu i YC
     have Q:=h.2 i wH
     let ⟨_,o,ho,_⟩:=mem_ready.1 YC
     let ⟨x,hx,Zx⟩:=kw (ops.toList.take At) xs i o hc (by simpa[Ji,hiy] using ho)
     have Z0:=hd i;rw[hx]at Z0;simp[HG]at Z0
     let ⟨d,Za,ZH⟩:=Z0
     unfold AP at Q;simp[Za]at Q;rw[ZH]at Q;exact adG hF hS hE ho Zx hs Q λsl' lh' m' a' w' h3 h4 h5=>ih _ sl' lh' m' a' w' (by simpa using YD) (λk hk=>by rw[getD_set_ne false I];exact hl k hk) (ft ZC YC) h3 (he.trans h4) h5
theorem srf {ops:Array Oper} (hF:jT F) (hS:∀ f,(Uc f).Ok P f) (hE:∀ t∈BD,dc P t) (hY:YS B F n P l rec W1 lh0 m0 Y) {At id:Nat} {ds:List hJ} {CJ:List mL} (hc:rK P BD ops At=some (ds,CJ)) {sl:List ah} {lh:List av} {m:aJ} {g:Option Ex} {a:Act} {w:World} {X4:IQ}
 (hs:IR B l rec W1 lh0 m0 m sl lh g a w) (y:ma B.w0 Uc ds sl lh λsl lh=>cu B.w0 Uc l Y CJ sl lh g (X4 .normal)):(Code.region id ops true).wpIn F n P (QI B l rec W1 lh0 m0 X4) a w:=by
 unfold rK at hc;split at hc
 ·rename_i xs its' Ys hits
  split at hc
  ·rename_i hcond
   cases hc;simp only[DD,K8]at hcond
   let ⟨⟨⟨⟨⟨⟨⟨⟨N,Q⟩,h3⟩,h4⟩,h5⟩,h6⟩,h7⟩,h8⟩,h9⟩:=hcond
   have h5':=HS h5;have hA:(ops.toList.take At).toArray.size=At:=by simp;omega
   let ⟨hw,ht⟩:=y
   have h1:Hl (gS (ops.toList.take At).toArray xs (cz xs 0) xs 0) (kB B.w0 lh sl lh.length (gS (ops.toList.take At).toArray xs (cz xs 0) xs 0)):=λi d hd=>by
    refine⟨λqq=>?_,?_⟩
    ·unfold HZ;rw[nU,hd];have:=List.all_eq_true.1 h6 d (Q3 hd);simp[qq]at this;simp[this,r8]
    ·have:=mY (ds:=gS (ops.toList.take At).toArray xs (cz xs 0) xs 0) (gS (ops.toList.take At).toArray xs (cz xs 0) xs 0) 0 (λj=>by simp) hw i d (by simpa using hd);simpa using this
   generalize kB B.w0 lh sl lh.length (gS (ops.toList.take At).toArray xs (cz xs 0) xs 0)=Ws at hw ht h1;refine wpIn_region_any N ?_;have ZC:∀os:Array Oper,fY os (Array.replicate ops.size false):=λos k o hk=>by simp[Py]at hk;split at hk<;>simp at hk
   have hany:=me hS h1 Q (h4.trans hA.symm) (gS (ops.toList.take At).toArray xs (cz xs 0) xs 0) 0 _ sl _ (λj=>by simp) h3 (ZC _) ht;have hext:iq lh m (lh++List.replicate (MJ (gS (ops.toList.take At).toArray xs (cz xs 0) xs 0)) .dead) m:=⟨aJ.le_refl m,λk hk=>⟨by rw[Ht (List.getElem?_eq_some_iff.1 hk).1];exact hk,rfl⟩⟩;rw[h4]at hany;have:=adu (n:=n) (r:=ops.size-At) (B:=B.at m lh w []) (X4:=QI B l rec W1 lh0 m0 X4) hF hS hE Ys (vV (ops.toList.take At).toArray xs (cz xs 0) xs 0) h7 h8 h5' (lh0:=lh) (m0:=m) (λsl' lh' m' a' w' fuel g1 g2 g3 g4=>by refine R67 (ops.size-At) At fuel _ a' w' g4 h9 ?_;have:=kS (n:=n) (ops:=ops) (X4:=QI B l rec W1 lh0 m0 X4) hF hS hE hY (ops.toList.drop At) CJ At sl' lh' m' g a' w' (X4 .normal) (λj=>by simp) hits g3 (hs.step g1 g2) (λsl' lh' m' g' a' w' N h3=>⟨.normal,sl',lh',m',g',rfl,N,h3⟩);simpa using this) At (Array.replicate ops.size false) sl _ m a { w with drawn:=w.drawn+1 } aD (λi _=>by simp[Py];split<;>rfl) (ZC ops) ⟨hs.vs,hs.df,((hs.hh.rebase []).deads _).drew _⟩ hext hany;rwa [show At+(ops.size-At)=ops.size by omega]at this
  ·cases hc
 ·cases hc
theorem yaz (hF:jT F) (hS:∀ f,(Uc f).Ok P f) (hE:∀ t∈BD,dc P t) (hY:YS B F n P l rec W1 lh0 m0 Y):∀ (c:Code) (s:ik) (sl:List ah) (lh:List av) (m:aJ) (g:Option Ex) (a:Act) (w:World) (X4:IQ),
 jr P BD c=some s->IR B l rec W1 lh0 m0 m sl lh g a w->kh B.w0 Uc l Y s sl lh g X4->c.wpIn F n P (QI B l rec W1 lh0 m0 X4) a w:=by
 intro c;induction c with
 |skip=>intro s sl lh m g a w X4 hc hs y;cases hc;exact wpIn_skip ⟨.normal,sl,lh,m,g,rfl,hs,y⟩|label t=>intro s sl lh m g a w X4 hc hs y;cases hc;exact wpIn_label ⟨.normal,sl,lh,m,g,rfl,hs,y⟩
 |region id ops dr=>
   intro s sl lh m g a w X4 hc hs y;cases dr with
   |false=>simp[jr,HG]at hc;obtain⟨xs,Ys,rfl⟩:=hc;refine wpIn_region ?_;have:=kS (n:=n) (ops:=ops) (X4:=QI B l rec W1 lh0 m0 X4) hF hS hE hY ops.toList xs 0 sl lh m g a w (X4 .normal) aD Ys y hs (λsl' lh' m' g' a' w' N h3=>⟨.normal,sl',lh',m',g',rfl,N,h3⟩);rwa [Ql,← P3]
   |true=>
     simp[jr]at hc;split at hc
     ·simp[HG]at hc;obtain⟨ds,fe,rfl⟩:=hc;exact C84 (B:=B.at m lh w []) hF hS hE fe ⟨hs.vs,hs.df,hs.hh.rebase []⟩ y (λsl' lh' m' a' w' N Q h3=>⟨.normal,sl',lh',m',g,rfl,hs.step N Q,h3⟩)
     ·simp only[HG]at hc;obtain⟨⟨ds,CJ⟩,fe,rfl⟩:=hc;exact srf hF hS hE hY fe hs y
 |seq x At ihx ihy=>
   intro s sl lh m g a w X4 hc hs y;simp[jr]at hc;split at hc
   ·rename_i sx sy hx hy
    cases hc;refine wpIn_seq (wpIn_mono (ihx sx sl lh m g a w _ hx hs y) λe a' w' hq=>?_);obtain⟨ex,sl',lh',m',g',rfl,N,h3⟩:=hq;cases ex with
    |normal=>exact ihy sy sl' lh' m' g' a' w' X4 hy N h3|exit i=>exact⟨.exit i,sl',lh',m',g',rfl,N,h3⟩|ret=>exact⟨.ret,sl',lh',m',g',rfl,N,h3⟩
   ·cases hc
 |cond c x At ihx ihy=>
   intro s sl lh m g a w X4 hc hs y;simp[jr]at hc;split at hc
   ·rename_i sx sy hx hy
    cases hc;simp[kh]at y;have ha:=aV hs.vs c;split at y
    ·rename_i t ht;rw[ht]at ha;exact wpIn_cond_split (im ha) (λe=>ihx sx sl lh m g a w X4 hx hs (y.1 e)) (λe=>ihy sy sl lh m g a w X4 hy hs (y.2 e))
    ·exact y.elim
   ·cases hc
 |block id x ih=>
   intro s sl lh m g a w X4 hc hs y;simp[jr,HG]at hc;obtain⟨sx,hx,rfl⟩:=hc;refine wpIn_block (wpIn_mono (ih sx sl lh m g a w _ hx hs y) λe a' w' hq=>?_);obtain⟨ex,sl',lh',m',g',rfl,N,h3⟩:=hq;cases ex with
   |normal=>exact⟨.normal,sl',lh',m',g',rfl,N,h3⟩
   |exit i=>
     simp[O6,Exit.inBlock];simp[u3]at h3;split at h3
     ·rename_i e;rw[DL e];exact⟨.normal,sl',lh',m',g',rfl,N,h3⟩
     ·rename_i e;rw[Ck e];exact⟨.exit i,sl',lh',m',g',rfl,N,h3⟩
   |ret=>exact⟨.ret,sl',lh',m',g',rfl,N,h3⟩
 |loop x ih=>
   intro s sl lh m g a w X4 hc hs y;simp[jr,HG]at hc;obtain⟨sx,hx,rfl⟩:=hc;simp[kh]at y;obtain⟨ι,shs,shl,shg,μ,i0,rfl,rfl,rfl,hr⟩:=y;refine C44 (λk a w=>∃i m',IR B l rec W1 lh0 m0 m' (shs i) (shl i) (shg i) a w/\μ i=k) ⟨_,i0,m,hs,rfl⟩ λk a w hI=>?_;obtain⟨i,m',hi,rfl⟩:=hI;refine wpIn_mono (ih sx (shs i) (shl i) m' (shg i) a w _ hx hi (hr i)) λe a' w' hq=>?_;obtain⟨ex,sl',lh',m2,g',rfl,N,h3⟩:=hq;cases ex with
   |normal=>obtain⟨i',rfl,rfl,rfl,XD⟩:=h3;exact⟨_,XD,i',m2,N,rfl⟩
   |exit j=>exact⟨.exit j,sl',lh',m2,g',rfl,N,h3⟩|ret=>exact⟨.ret,sl',lh',m2,g',rfl,N,h3⟩
 |exit id=>intro s sl lh m g a w X4 hc hs y;cases hc;exact wpIn_exit ⟨.exit id,sl,lh,m,g,rfl,hs,y⟩|ret=>intro s sl lh m g a w X4 hc hs y;cases hc;exact wpIn_ret ⟨.ret,sl,lh,m,g,rfl,hs,y⟩
 |scope x ih=>intro s sl lh m g a w X4 hc hs y;simp[jr,HG]at hc;obtain⟨sx,hx,rfl⟩:=hc;exact C23 (λt a w ⟨ex,_,_,_,_,h,_⟩=>by cases ex<;>cases h) (ih sx sl lh m g a w X4 hx hs y)
 |_=>intro s sl lh m g a w X4 hc;cases hc
end it
def Oo (tmps:Array Value):ResultVar->Sem Value
 |.tmp t=>pure (tmps.getD t undef)|.cell b t=>do loadVar t (← asAddr (tmps.getD b undef))
def rP:List Value->Value
 |[v]=>v|vs=>.tuple vs.toArray
theorem C99 {fn:Func} {tmps:Array Value} {w:World} {vs:List Value} (h:(fn.results.toList.mapM (Oo tmps)).run P w=.ok vs w):(results fn tmps).run P w=.ok (rP vs) w:=by
 have e0:results fn tmps=(do let vs ← fn.results.mapM (Oo tmps);pure (if h:vs.size=1 then vs[0] else .tuple vs)):=by unfold results;congr 2
 have Q:(fn.results.mapM (Oo tmps)).run P w=.ok vs.toArray w:=by rw[Array.mapM_eq_mapM_toList];show(do pure (← fn.results.toList.mapM (Oo tmps)).toArray:Sem (Array Value)).run P w=_;rw[ac h];rfl
 rw[e0,ac Q]
 match vs with
 |[]=>rfl|[v]=>rfl|v::u::l=>simp[rP]
def kG (P : Program) (BD : List TypeId) (CJ : List gX) : Prop := ∀ it ∈ CJ, ∃ fn, P.funcs[it.f]? = some fn /\ (fn.name == "runtime.NumGoroutine") = false /\ pW P BD fn = some (it.ntmps, it.body)
theorem nD:∀ {CJ:List gX} {f:FuncId} {it:gX},AU CJ f=some it->it∈CJ/\it.f=f
 |[],_,_,h=>by cases h
 |x::l,f,it,h=>by
   simp[AU]at h;split at h
   ·rename_i e;cases h;exact⟨Li,e.symm⟩
   ·exact⟨Mw _ (nD h).1,(nD h).2⟩
theorem ad3 {m:aJ}:∀ (ps:List Nat) (sl xs:List ah) (us:Array Value) (vs:List Value),aC m sl us.toList->aC m xs vs->xs.length=ps.length ->
 aC m (kA sl ps xs) ((ps.zip vs).foldl (λt (p,v)=>t.setIfInBounds p v) us).toList
 |[],sl,xs,us,vs,h,_,_=>by cases xs<;>simpa[kA] using h
 |p::ps,sl,[],us,vs,_,_,hl=>by cases hl
 |p::ps,sl,x::xs,us,vs,h,hx,hl=>by simp[aC]at hx;obtain⟨u,us',rfl,N,Q⟩:=hx;simp[kA,List.zip_cons_cons,List.foldl_cons];exact ad3 ps _ xs _ us' (by rw[S6];exact jH p h N) Q (by simpa using hl)
theorem SR.step {m m':aJ} {sl sl':List ah} {lh lh':List av} {a a':Act} {w w':World} (h:SR B m sl lh a w) (hs:i9 (B.at m lh w a.defers) m' sl' lh' a' w'):SR B m' sl' lh' a' w'/\KeepsOthers w w':=by
 let ⟨N,Q⟩:=h.2.2.unbase hs.2.2
 exact⟨⟨hs.1,by rw[hs.2.1];exact nh Q h.2.1,N⟩,Q⟩
def tz (F:Fence) (w:World):Prop:=F.round=none∨∃l0 r0,F.round=some l0/\w.heap[l0]? = some (.loop r0)
theorem tz.keeps {F:Fence} {w w':World} (h:tz F w) (hk:KeepsOthers w w'):tz F w' :=
 h.imp_right λ⟨l0,r0,N,Q⟩=>⟨l0,r0,N,hk.same _ _ Q rfl⟩
theorem wOf {CJ:List gX} (hS:∀ f,(Uc f).Ok P f) (hE:∀ t∈BD,dc P t) (hI:kG P BD CJ):∀ (c:Code) (F:Fence) (n nb:Nat) (B:dj) (s:gt) (sl:List ah) (lh:List av) (m:aJ) (a:Act) (w:World) (X4:Ex->List ah->List av->Prop),
 jT F->tz F w->cW P BD CJ c=some s->SR B m sl lh a w->cm B.w0 Uc nb s sl lh X4->c.wpIn F n P (QC B nb lh m w X4) a w:=by
 have hSS:∀f,(Uc f).Sound P f:=λf=>(hS f).sound;intro c;induction c with
 |skip=>intro F n nb B s sl lh m a w X4 hF hr hc hs y;cases hc;exact wpIn_skip ⟨.normal,sl,lh,m,rfl,hs,mO.refl _ _ _,.refl _,y⟩|label l=>intro F n nb B s sl lh m a w X4 hF hr hc hs y;cases hc;exact wpIn_label ⟨.normal,sl,lh,m,rfl,hs,mO.refl _ _ _,.refl _,y⟩
 |region id ops dr=>
   intro F n nb B s sl lh m a w X4 hF hr hc hs y;cases dr with
   |false=>simp only[cW,HG]at hc;obtain⟨xs,Ys,rfl⟩:=hc;refine wpIn_region ?_;have:=nr (n:=n) (ops:=ops) (B:=B.at m lh w a.defers) (X4:=QC B nb lh m w X4) hF hSS hE [] ops.toList xs 0 sl lh m a w (X4 .normal) aD Ys y ⟨hs.1,rfl,hs.2.2.rebase _⟩ (λsl' lh' m' a' w' N Q h3=>⟨.normal,sl',lh',m',rfl,(hs.step N).1,Q.toN nb,(hs.step N).2,h3⟩);rw[Q7]at this;rwa [Ql,← P3]
   |true=>
     simp only[cW]at hc;split at hc
     ·rename_i t ht;cases hc;exact ae3 (B:=B.at m lh w a.defers) hF hS hE ht ⟨hs.1,rfl,hs.2.2.rebase _⟩ y (λsl' lh' m' a' w' N Q h3=>⟨.normal,sl',lh',m',rfl,(hs.step N).1,Q.toN nb,(hs.step N).2,h3⟩)
     ·split at hc
      ·rename_i t ht;cases hc;exact adw (B:=B.at m lh w a.defers) hF hS hE ht ⟨hs.1,rfl,hs.2.2.rebase _⟩ y (λsl' lh' m' a' w' N Q h3=>⟨.normal,sl',lh',m',rfl,(hs.step N).1,Q.toN nb,(hs.step N).2,h3⟩)
      simp only[HG]at hc;obtain⟨ds,fe,rfl⟩:=hc;exact C84 (B:=B.at m lh w a.defers) hF hS hE fe ⟨hs.1,rfl,hs.2.2.rebase _⟩ y (λsl' lh' m' a' w' N Q h3=>⟨.normal,sl',lh',m',rfl,(hs.step N).1,Q.toN nb,(hs.step N).2,h3⟩)
 |seq x At ihx ihy=>
   intro F n nb B s sl lh m a w X4 hF hr hc hs y;simp only[cW]at hc;split at hc
   ·rename_i sx sy hx hy
    cases hc;refine wpIn_seq (wpIn_mono (ihx F n nb B sx sl lh m a w _ hF hr hx hs y) λe a' w' hq=>?_);obtain⟨ex,sl',lh',m',rfl,N,Q,hk,h3⟩:=hq;cases ex with
    |normal=>exact wpIn_mono (ihy F n nb B sy sl' lh' m' a' w' X4 hF (hr.keeps hk) hy N h3) λe a'' w''=>QC.of Q hk λ_ _ _ h=>h
    |exit i=>exact⟨.exit i,sl',lh',m',rfl,N,Q,hk,h3⟩|ret=>exact⟨.ret,sl',lh',m',rfl,N,Q,hk,h3⟩
   ·cases hc
 |cond c x At ihx ihy=>
   intro F n nb B s sl lh m a w X4 hF hr hc hs y;simp only[cW]at hc;split at hc
   ·rename_i sx sy hx hy
    cases hc;simp only[cm]at y;have ha:=aV hs.1 c;split at y
    ·rename_i t ht;rw[ht]at ha;exact wpIn_cond_split (im ha) (λe=>ihx F n nb B sx sl lh m a w X4 hF hr hx hs (y.1 e)) (λe=>ihy F n nb B sy sl lh m a w X4 hF hr hy hs (y.2 e))
    ·exact y.elim
   ·cases hc
 |block id x ih=>
   intro F n nb B s sl lh m a w X4 hF hr hc hs y;simp only[cW,HG]at hc;obtain⟨sx,hx,rfl⟩:=hc;refine wpIn_block (wpIn_mono (ih F n nb B sx sl lh m a w _ hF hr hx hs y) λe a' w' hq=>?_);obtain⟨ex,sl',lh',m',rfl,N,Q,hk,h3⟩:=hq;cases ex with
   |normal=>exact⟨.normal,sl',lh',m',rfl,N,Q,hk,h3⟩
   |exit i=>
     simp only[O6,Exit.inBlock];simp only[uG]at h3;split at h3
     ·rename_i e;rw[DL e];exact⟨.normal,sl',lh',m',rfl,N,Q,hk,h3⟩
     ·rename_i e;rw[Ck e];exact⟨.exit i,sl',lh',m',rfl,N,Q,hk,h3⟩
   |ret=>exact⟨.ret,sl',lh',m',rfl,N,Q,hk,h3⟩
 |loop x ih=>
   intro F n nb B s sl lh m a w X4 hF hr hc hs y;simp only[cW,HG]at hc;obtain⟨sx,hx,rfl⟩:=hc;simp only[cm]at y;obtain⟨ι,shs,shl,μ,i0,h0,hrd⟩:=y;have sub:∀{m:aJ} {sl Yp:List ah} {lh lh1:List av} {a:Act} {w:World},Sub nb sl lh Yp lh1->SR B m sl lh a w->∃m1,SR B m1 Yp lh1 a w/\mO nb lh m lh1 m1:=λ{m sl Yp lh lh1 a w} N Q=>by obtain⟨m1,g1,g2⟩:=N.rel (B:={ B with ds:=a.defers }) (a:=a) (w:=w) (m:=m) ⟨Q.1,rfl,Q.2.2.withDs _⟩;exact⟨m1,⟨g1.1,Q.2.1,g1.2.2.noDs⟩,g2⟩
   obtain⟨m1,ZV,w5⟩:=sub h0 hs;refine C44 (λk a w'=>∃i m',SR B m' (shs i) (shl i) a w'/\mO nb lh m (shl i) m'/\KeepsOthers w w'/\μ i=k) ⟨_,i0,m1,ZV,w5,.refl _,rfl⟩ λk a w1 hI=>?_;obtain⟨i,m',hi,he,hk,rfl⟩:=hI;refine wpIn_mono (ih F n nb B sx (shs i) (shl i) m' a w1 _ hF (hr.keeps hk) hx hi (hrd i)) λe a' w' hq=>?_;obtain⟨ex,sl',lh',m2,rfl,N,Q,Zb,h3⟩:=hq;cases ex with
   |normal=>obtain⟨i',hsub,XD⟩:=h3;obtain⟨m3,wa,he3⟩:=sub hsub N;exact⟨_,XD,i',m3,wa,(he.trans Q).trans he3,hk.trans Zb,rfl⟩
   |exit j=>exact⟨.exit j,sl',lh',m2,rfl,N,he.trans Q,hk.trans Zb,h3⟩|ret=>exact⟨.ret,sl',lh',m2,rfl,N,he.trans Q,hk.trans Zb,h3⟩
 |exit id=>intro F n nb B s sl lh m a w X4 hF hr hc hs y;cases hc;exact wpIn_exit ⟨.exit id,sl,lh,m,rfl,hs,mO.refl _ _ _,.refl _,y⟩|ret=>intro F n nb B s sl lh m a w X4 hF hr hc hs y;cases hc;exact wpIn_ret ⟨.ret,sl,lh,m,rfl,hs,mO.refl _ _ _,.refl _,y⟩
 |scope x ih=>intro F n nb B s sl lh m a w X4 hF hr hc hs y;simp only[cW,HG]at hc;obtain⟨sx,hx,rfl⟩:=hc;exact C23 (λl a w ⟨ex,_,_,_,h,_⟩=>by cases ex<;>cases h) (ih F n nb B sx sl lh m a w X4 hF hr hx hs y)
 |rangeFunc gop ps asg body iha ihb=>
   intro F n nb B s sl lh m a w X4 hF hr hc hs y;simp only[cW]at hc;split at hc
   ·rename_i x14 x15 hca hcb
    ·cases hc
     simp only[cm]at y;have hg:=aV hs.1 gop;split at y
     ·rename_i f ys w8
      rw[w8]at hg;simp only[CL,aC]at hg;obtain⟨us,lb,hg,Z3,sE⟩:=hg;obtain rfl:us=#[]:=by apply Array.toList_inj.1;simpa using Z3
      split at y
      ·rename_i it hit
       obtain⟨hmem,rfl⟩:=nD hit;obtain⟨fn,hf,qc,oE⟩:=hI it hmem;unfold pW at oE;split at oE
       ·rename_i _ _ cb hbody hres
        simp only[HG,Prod.mk.injEq]at oE;obtain⟨evRet,hsi,hnt,f0⟩:=oE;subst f0;refine wpIn_rangeFunc ?_;intro f5 yaC
        let F0:Fence:={ F with round:=none }
        have hF0:jT F0:=⟨hF.fn,hF.depth,hF.alive⟩;obtain⟨l,mark,D0,rec,W1,hrec,henter,hL1,wsp,hH1,hlw,hmark⟩:∃ (l:Nat) (mark:List Deferred) (D0:Nat) (rec:LoopState->Option Code->Loop) (W1:World),rec=(λst pe=>{ state:=st,pending:=pe,fn:=f5,tmps:=a.tmps,params:=ps,assign:=asg,body:=body,defers:=D0 })/\(Instr.enterLoop f5 a.tmps ps asg body F.round).run P w=.ok (l,mark) W1/\W1.heap[l]? = some (.loop (rec .ready none))/\KeepsOthers w W1/\ba B m lh W1/\w.heap.size<=l/\(∀ w'',KB l W1 w''->KeepsOthers w w''->jq B (mark++a.defers) w''):=by
         rcases hr with gu|⟨l0,r0,gu,hr0⟩
         ·refine ⟨w.heap.size+1,[{ target:=.collected w.heap.size,args:=#[] }],w.heap.size,_,(w.alloc (.deferred (some []))).alloc (.loop { state:=.ready,pending:=none,fn:=f5,tmps:=a.tmps,params:=ps,assign:=asg,body:=body,defers:=w.heap.size }),rfl,?_,?_,(KeepsOthers.alloc _ _).trans (KeepsOthers.alloc _ _),(hs.2.2.junk _).junk _,I,?_⟩
          ·rw[gu];exact run_enterLoop_outer _ _ _ _ _
          ·have:=World.alloc_heap_new (w.alloc (.deferred (some []))) (.loop { state:=.ready,pending:=none,fn:=f5,tmps:=a.tmps,params:=ps,assign:=asg,body:=body,defers:=w.heap.size });rwa [World.size_alloc]at this
          ·intro w'' i3 hk;have hK1:=(KeepsOthers.alloc (w.alloc (.deferred (some []))) (.loop { state:=.ready,pending:=none,fn:=f5,tmps:=a.tmps,params:=ps,assign:=asg,body:=body,defers:=w.heap.size })).same _ _ (World.alloc_heap_new w (.deferred (some []))) rfl;refine⟨_,rfl,i3.same _ _ I hK1 rfl,⟨hs.2.2.fsize,hs.2.2.size⟩,hs.2.1.old (λo ho=>?_),nh hk hs.2.1⟩;have:=(Array.getElem?_eq_some_iff.1 ho).1;omega
         ·refine⟨w.heap.size,[],r0.defers,_,w.alloc (.loop { state:=.ready,pending:=none,fn:=f5,tmps:=a.tmps,params:=ps,assign:=asg,body:=body,defers:=r0.defers }),rfl,?_,World.alloc_heap_new _ _,KeepsOthers.alloc _ _,hs.2.2.junk _,Dm _,λw'' _ hk=>nh hk hs.2.1⟩;rw[gu];exact run_enterLoop_inner hr0 _ _ _ _ _
        have wQ:B.w0.heap.size<=l:=Jc hs.2.2.size hlw;have hlef:B.wf.heap.size<=l:=Jc hs.2.2.fsize hlw
        refine ⟨l,mark,W1,{ target:=.fn (.func it.f) lb,args:=#[.func (.yield l) #[] #[]] },W1,it.f,
         #[.func (.yield l) #[] #[]]++lb,W1,henter,?_,λf' _=>hF.fn f',?_,(λe=>by rw[hF.depth]at e;cases e),?_⟩
        ·simp only[resolve,hg];simp[go_sem]
        ·simp only[invoke,callFunc];rw[ac (a:=P) (w':=W1) rfl,hf];simp only[qc,hbody,Option.isNone_some,JN,IG];rfl
        ·-- THE ITERATOR
         have hY:YS B F0 (n-1) P l rec W1 lh m (λxs lh K=>xs.length=ps.toList.length/\cm B.w0 Uc lh.length x14 (kA sl ps.toList xs) lh (sZ (λsl lh'=>cm B.w0 Uc lh.length x15 sl lh' λx _ lh=>K x lh) λ_ _ _=>False)):=by
          intro m' lh' w' args vs K hh he wX i3 Y2 hy;obtain⟨hlen,hy⟩:=hy;refine⟨f5,_,asg,body,by have:=run_yield (P:=P) (args:=vs.toArray) wX (by rw[hrec];have:=cB Y2;simp;simp at hlen;omega);rw[hrec]at this;exact this,?_⟩;refine roundIn_of_wpIn yaC ?_;have ab:SR B m' (kA sl ps.toList args) lh' { tmps:=(ps.zip vs.toArray).foldl (λt (p,v)=>t.setIfInBounds p v) a.tmps,defers:=[] } w':=by refine⟨?_,trivial,hh⟩;have:=ad3 ps.toList sl args a.tmps vs (cH he.1 _ _ hs.1) Y2 hlen;rw[← Array.foldl_toList,Array.toList_zip];simpa using this
          have hFr:jT (F0.inRound l):=⟨hF.fn,hF.depth,hF.alive⟩;refine wpIn_mono (iha (F0.inRound l) (n-1-1) lh'.length B x14 _ lh' m' _ w' _ hFr (.inr ⟨l,_,rfl,wX⟩) hca ab hy) λe a1 w1 hq=>?_;obtain⟨ex,Yp,lh1,m1,rfl,N,Q,fg,h3⟩:=hq;cases ex with
          |normal=>
            have g8:w1.heap[l]? = some (.loop (rec .ready none)):=fg.same _ _ wX rfl;refine⟨_,run_beginRound g8 (by rw[hrec]),?_⟩;have bn:=N.2.2.putObj g8 rfl hlef wQ (.loop { rec .ready none with state:=.busy });have yaD:=(i3.keeps fg).put (.loop { rec .ready none with state:=.busy });have hm1:jq B a1.defers (w1.putObj (l) (.loop { rec .ready none with state:=.busy })):=N.2.1.keeps λBp o hD=>(World.putObj_heap_other (λe=>by subst e;rw[g8]at hD;cases hD)).trans hD;have yaE:l<w1.heap.size:=(Array.getElem?_eq_some_iff.1 g8).1;have hr2:(w1.putObj (l) (.loop { rec .ready none with state:=.busy })).heap[l]? = some (.loop { rec .ready none with state:=.busy }):=World.putObj_heap_same yaE;refine wpIn_mono (ihb (F0.inRound l) (n-1-1) lh'.length B x15 Yp lh1 m1 a1 _ _ hFr (.inr ⟨l,_,rfl,hr2⟩) hcb ⟨N.1,hm1,bn⟩ h3) λe a2 w2 hq=>?_;obtain⟨ex,Yw,lh2,m2,rfl,k1,k2,Zb,k3⟩:=hq;have wW:=Zb.same _ _ hr2 rfl;have hend:∀jump:Option Code,(Instr.endRound (l) jump).run P w2=.ok (.bool jump.isNone) (w2.putObj (l) (.loop (rec (if jump.isNone then .ready else .done) jump))):=λjump=>by have:=run_endRound (P:=P) jump wW;rw[hrec]at this ⊢;exact this
            have yaJ:l<w2.heap.size:=(Array.getElem?_eq_some_iff.1 wW).1;have fin:∀ x,∃ x' m'' lh'',Ending.returned (.bool (Er x).isNone)=.returned (.bool (Er x').isNone)/\ba B m'' lh'' (w2.putObj (l) (.loop (rec (if(Er x).isNone then .ready else .done) ((Er x).map X3))))/\iq lh' m' lh'' m''/\FL (l) rec (Er x') (w2.putObj (l) (.loop (rec (if(Er x).isNone then .ready else .done) ((Er x).map X3))))/\KB (l) W1 (w2.putObj (l) (.loop (rec (if(Er x).isNone then .ready else .done) ((Er x).map X3))))/\(K x lh2->K x' lh''):=λx=>
             ⟨x,m2,lh2,rfl,k1.2.2.putObj wW rfl hlef wQ _,BZ hh (Q.trans k2),World.putObj_heap_same yaJ,(yaD.keeps Zb).put _,id⟩
            cases ex with
            |normal=>obtain⟨x',m'',lh'',e1,e2,e3,e4,e5,e6⟩:=fin .normal;exact⟨_,_,hend none,x',m'',lh'',e1,e2,e3,e4,e5,e6 k3⟩|exit i=>obtain⟨x',m'',lh'',e1,e2,e3,e4,e5,e6⟩:=fin (.exit i);exact⟨_,_,hend (some (.exit i)),x',m'',lh'',e1,e2,e3,e4,e5,e6 k3⟩|ret=>obtain⟨x',m'',lh'',e1,e2,e3,e4,e5,e6⟩:=fin .ret;exact⟨_,_,hend (some .ret),x',m'',lh'',e1,e2,e3,e4,e5,e6 k3⟩
          |exit i=>exact h3.elim|ret=>exact h3.elim
         have wH:IR B (l) rec W1 lh m m (jh (l)::ys++List.replicate (it.ntmps-(ys.length+1)) .any) lh none { tmps:=(#[Value.func (.yield (l)) #[] #[]]++lb)++Array.replicate (fn.ntmps-(#[Value.func (.yield (l)) #[] #[]]++lb).size) undef,defers:=[] } W1:=by
          refine⟨?_,rfl,hH1,iq.refl _ _,hL1,KB.refl _ _⟩;have hl:=cB sE;simp only[Qo,Array.toList_replicate,Array.size_append];refine dW ?_ ?_
          ·simp only[aC];exact⟨_,_,rfl,by simp only[jh,CL],sE⟩
          ·have e:fn.ntmps-(#[Value.func (.yield (l)) #[] #[]].size+lb.size)=it.ntmps-(ys.length+1):=by
            have:lb.size=ys.length:=by simpa using hl
            rw[hnt,this];simp;omega
           rw[e];exact gh _ _
         refine callsIn_of_wp (F:=F0) hf hbody (hF.fn _) (wpIn_mono (yaz hF0 hS hE hY cb it.body _ lh m none _ W1 _ hsi wH (y _)) λe a' w' hq=>?_) rfl;obtain⟨ex,sl',lh',m',g,rfl,hi,hq⟩:=hq;have hres':(results fn a'.tmps).run P w'=.ok (rP []) w':=by refine C99 ?_;rw[hres];rfl
         have XD:l<w'.heap.size:=(Array.getElem?_eq_some_iff.1 hi.rc).1;have hfin:∀ x,X4 x sl lh'->∃ o,QC B nb lh m w X4 (O6 x) { a with defers:=mark++a.defers } (w'.putObj (l) o)/\o=.loop { rec (if g.isNone then .ready else .done) (g.map X3) with state:=.exhausted }:=λx hx=>by
          have hk:KeepsOthers w (w'.putObj (l) (.loop { rec (if g.isNone then .ready else .done) (g.map X3) with state:=.exhausted })):=by have i3:=hi.kb.put (.loop { rec (if g.isNone then .ready else .done) (g.map X3) with state:=.exhausted });exact⟨Jc wsp.size i3.size,λk o hk ho=>i3.same k o (λe=>by have:=(Array.getElem?_eq_some_iff.1 hk).1;omega) (wsp.same k o hk ho) ho⟩
          refine⟨_,⟨x,sl,lh',m',rfl,⟨cH hi.ext.1 _ _ hs.1,?_,hi.hh.putObj hi.rc rfl hlef wQ _⟩,hi.ext.toN nb,hk,hx⟩,rfl⟩;exact hmark _ (hi.kb.put _) hk
         have hendl:=run_endLoop (P:=P) hi.rc (by rw[hrec];cases g<;>simp);have main:TL X4 sl .normal sl' lh' g->rangePost F n P (l) (QC B nb lh m w X4) { a with defers:=mark++a.defers } (.returned (rP [])) w':=λhq=>by
          refine⟨_,_,hendl,?_⟩;cases g with
          |none=>obtain⟨o,N,rfl⟩:=hfin .normal hq;rw[hrec]at N ⊢;exact N
          |some x=>
            obtain⟨o,N,rfl⟩:=hfin x hq;rw[hrec]at N ⊢;cases x with
            |normal=>exact wpIn_skip N|exit i=>exact wpIn_exit N|ret=>exact wpIn_ret N
         cases ex with
         |normal=>exact⟨hi.df,_,hres',main hq⟩|ret=>exact⟨hi.df,_,hres',main (by cases g<;>exact hq)⟩|exit i=>exact hq.elim
       ·cases oE
      ·exact y.elim
     ·exact y.elim
   ·cases hc
 |_=>intro F n nb B s sl lh m a w X4 hF hr hc;cases hc
end
end Go.Sx
namespace Go.Sx
inductive zS where|tmp (t:Nat)|cell (t:Nat) (n:Option Nat)
structure aU where
 ntmps:Nat
 res:List zS
 body:gt
def mb (P:Program):List ResultVar->Option (List zS)
 |[]=>some []|.tmp t::l=>(mb P l).map (.tmp t::·)
 |.cell a t::l=>match oM P t,mb P l with|some n,some l=>some (.cell a n::l)|_,_=>none
def ek (P:Program) (BD:List TypeId) (CJ:List gX) (fn:Func):Option aU :=
 match fn.body with
 |some c=>match cW P BD CJ c,mb P fn.results.toList with|some s,some r=>some ⟨fn.ntmps,r,s⟩|_,_=>none
 |none=>none
def iW (w0:World) (sl:List ah) (lh:List av):List zS->(List ah->Prop)->Prop
 |[],K=>K []|.tmp t::l,K=>iW w0 sl lh l λvs=>K (sl.getD t .any::vs)
 |.cell t n::l,K=>match sl.getD t .any with
   |.ptr (some p)=>match n with
     |none=>∃v,ld w0 lh p=some v/\iW w0 sl lh l λvs=>K (v::vs)
     |some n=>∃cs,lds w0 lh p n=some cs/\iW w0 sl lh l λvs=>K (.agg cs::vs)
   |_=>False
def pM:List ah->ah
 |[v]=>v|vs=>.tup vs
def akd (w0:World) (res:List zS) (K:ah->List av->Prop):Ex->List ah->List av->Prop
 |.normal,sl,lh=>iW w0 sl lh res λvs=>K (pM vs) lh
 |.ret,sl,lh=>iW w0 sl lh res λvs=>K (pM vs) lh
 |.exit _,_,_=>False
def FH (w0:World) (Uc:FuncId->bT) (f:aU) (args:List ah) (lh:List av) (K:ah->List av->Prop):Prop :=
 cm w0 Uc lh.length f.body (args++List.replicate (f.ntmps-args.length) .any) lh (akd w0 f.res K)
def Rb (nb:Nat) (K:ah->List av->Prop) (r:ah) (lh:List av):Prop:=∃r1 lh1,Sub nb [r] lh [r1] lh1/\K r1 lh1
mutual
theorem Jo:∀ a:ah,ren id a=a
 |.int ..=>by simp[ren]
 |.bool ..=>by simp[ren]
 |.str ..=>by simp[ren]
 |.ptr none=>by simp[ren]
 |.ptr (some (.g _))=>by simp[ren]
 |.ptr (some (.l k off))=>by simp[ren,id]
 |.slice none _ _=>by simp[ren]
 |.slice (some (.g _)) _ _=>by simp[ren]
 |.slice (some (.l k off)) _ _=>by simp[ren,id]
 |.fn f xs ys=>by simp only[ren];rw[qf xs,qf ys]
 |.agg cs=>by simp[ren];rw[qf cs]
 |.tup cs=>by simp[ren];rw[qf cs]
 |.raw _=>by simp[ren]
 |.any=>by simp[ren]
theorem qf:∀ l:List ah,ve id l=l
 |[]=>by simp[ve]
 |a::l=>by simp only[ve];rw[Jo a,qf l]
end
mutual
theorem Bi {p X1:Nat->Prop} (h:∀ k,p k->X1 k):∀ a:ah,km p a->km X1 a
 |.int ..,_=>by simp[km]
 |.bool ..,_=>by simp[km]
 |.str ..,_=>by simp[km]
 |.ptr none,_=>by simp[km]
 |.ptr (some (.g _)),_=>by simp[km]
 |.ptr (some (.l k off)),hp=>by simp[km]at *;exact h k hp
 |.slice none _ _,_=>by simp[km]
 |.slice (some (.g _)) _ _,_=>by simp[km]
 |.slice (some (.l k off)) _ _,hp=>by simp[km]at *;exact h k hp
 |.fn f xs ys,hp=>by simp[km]at *;exact⟨jL h xs hp.1,jL h ys hp.2⟩
 |.agg cs,hp=>by simp[km]at *;exact jL h cs hp
 |.tup cs,hp=>by simp[km]at *;exact jL h cs hp
 |.raw _,_=>by simp[km]
 |.any,_=>by simp[km]
theorem jL {p X1:Nat->Prop} (h:∀ k,p k->X1 k):∀ l:List ah,jd p l->jd X1 l
 |[],_=>by simp[jd]
 |a::l,hp=>by simp[jd]at *;exact⟨Bi h a hp.1,jL h l hp.2⟩
end
theorem rq {p:Nat->Prop}:∀ {l:List ah},jd p l->kV p id l l
 |[],_=>by simp[kV]
 |a::l,h=>by simp[jd]at h;simp[kV];exact⟨.inr ⟨h.1,(Jo a).symm⟩,rq h.2⟩
mutual
theorem aeZ {m:aJ} {p:Nat->Prop} (h:∀ k b,m k=some b->p k):∀ (a:ah) (v:Value),CL m a v->km p a
 |.int ..,_,_=>by simp[km]
 |.bool ..,_,_=>by simp[km]
 |.str ..,_,_=>by simp[km]
 |.ptr none,_,_=>by simp[km]
 |.ptr (some (.g _)),_,_=>by simp[km]
 |.ptr (some (.l k off)),_,y=>by simp[CL,dR]at y;let ⟨_,_,b,hb,_⟩:=y;simp[km];exact h k b hb
 |.slice none _ _,_,_=>by simp[km]
 |.slice (some (.g _)) _ _,_,_=>by simp[km]
 |.slice (some (.l k off)) _ _,_,y=>by simp[CL,dR]at y;let ⟨_,_,b,hb,_⟩:=y;simp[km];exact h k b hb
 |.fn _ xs ys,_,y=>by simp[CL]at y;let ⟨us,vs,_,Q,h3⟩:=y;simp[km];exact⟨fZ h xs _ Q,fZ h ys _ h3⟩
 |.agg cs,_,y=>by simp[CL]at y;let ⟨vs,_,Q⟩:=y;simp[km];exact fZ h cs _ Q
 |.tup cs,_,y=>by simp[CL]at y;let ⟨vs,_,Q⟩:=y;simp[km];exact fZ h cs _ Q
 |.raw _,_,_=>by simp[km]
 |.any,_,_=>by simp[km]
theorem fZ {m:aJ} {p:Nat->Prop} (h:∀ k b,m k=some b->p k):∀ (l:List ah) (vs:List Value),aC m l vs->jd p l
 |[],_,_=>by simp[jd]
 |a::l,_,y=>by simp[aC]at y;let ⟨u,us,_,Q,h3⟩:=y;simp[jd];exact⟨aeZ h a u Q,fZ h l us h3⟩
end
def WF (lh:List av):Prop:=∀(k:Nat) (cs:List ah) (ty:TypeId),lh[k]? = some (.cells cs ty)->jd (λj=>j<lh.length) cs
theorem ba.wf {B:dj} {m:aJ} {lh:List av} {w:World} (h:ba B m lh w):WF lh:=λk cs ty hk=>by
 let ⟨b,vs,_,Y2,_⟩:=h.loc k cs ty hk
 exact fZ (λj b hb=>Classical.byContradiction λhn=>by rw[h.dom j I]at hb;cases hb) cs _ Y2
section
variable {P:Program} {Uc:FuncId->bT} {BD:List TypeId}
theorem kN {B:dj} {m:aJ} {sl:List ah} {lh:List av} {a:Act} {w:World} (hs:SR B m sl lh a w):∀ (rs:List ResultVar) (xs:List zS) (K:List ah->Prop),mb P rs=some xs->iW B.w0 sl lh xs K ->
 ∃ys vs,aC m ys vs/\K ys/\(rs.mapM (Oo a.tmps)).run P w=.ok vs w
 |[],xs,K,hc,y=>by simp only[mb,H2]at hc;subst hc;exact⟨[],[],by simp[aC],y,rfl⟩
 |.tmp t::rs,xs,K,hc,y=>by
   simp only[mb,HG]at hc;obtain⟨l,hl,rfl⟩:=hc;simp only[iW]at y
   let ⟨ys,vs,N,Q,h3⟩:=kN hs rs l _ hl y
   refine⟨_,a.tmps.getD t undef::vs,?_,Q,?_⟩
   ·simp only[aC];exact⟨_,_,rfl,by simpa using mj hs.1 t undef,N⟩
   ·simp only[PU];rw[ac (a:=a.tmps.getD t undef) (w':=w) rfl,ac h3];rfl
 |.cell b t::rs,xs,K,hc,y=>by
   simp only[mb]at hc;split at hc
   ·rename_i n l hn hl
    cases hc;simp only[iW]at y;have hb:CL m (sl.getD b .any) (a.tmps.getD b undef):=by simpa using mj hs.1 b undef
    split at y
    ·rename_i p hp
     rw[hp]at hb
     let ⟨X1,hq,YY⟩:=iL hb
     let ⟨d,hd,ax⟩:=jO hn
     cases n with
     |none=>
       let ⟨x,hx,y⟩:=y
       obtain⟨ad,v,rfl,hcell,hr⟩:=Am hs.2.2 YY hx
       let ⟨ys,vs,N,Q,h3⟩:=kN hs rs l _ hl y
       refine⟨_,v::vs,by simp only[aC];exact⟨_,_,rfl,hr,N⟩,Q,?_⟩;rcases ax with ⟨_,k,hk,_⟩|⟨h4,_⟩
       ·cases hk
       ·simp only[PU];rw[ac (a:=v) (w':=w) (by simp only[Oo];rw[hq,ac (a:=ad) (w':=w) rfl];unfold loadVar;rw[ac (jK hd w),h4];exact vk hcell)];rw[ac h3];rfl
     |some n=>
       let ⟨x,hx,y⟩:=y
       obtain⟨ad,us,rfl,hrun,hr⟩:=rB (P:=P) hs.2.2 YY hx
       let ⟨ys,vs,N,Q,h3⟩:=kN hs rs l _ hl y
       refine⟨_,.agg us::vs,by simp only[aC];exact⟨_,_,rfl,by simp only[CL];exact⟨_,rfl,hr⟩,N⟩,Q,?_⟩;rcases ax with ⟨h4,k,hk,h5⟩|⟨_,hk⟩
       ·cases hk;simp only[PU];rw[ac (a:=Value.agg us) (w':=w) (by simp only[Oo];rw[hq,ac (a:=ad) (w':=w) rfl];unfold loadVar;rw[ac (jK hd w),h4];simp only[J6];rw[ac (run_sizeOf h5 w),ac hrun];rfl)];rw[ac h3];rfl
       ·cases hk
    ·exact y.elim
   ·cases hc
theorem adJ {B:dj} {w:World} {Bp:Nat} {o:Obj}:∀ {ds:List Deferred},(∀ d'∈ds,d'.target≠.collected Bp)->jq B ds w->jq B ds (w.putObj Bp o)
 |[],_,_=>trivial|d::ds,hn,⟨D',N,Q,h3,h4,h5⟩=>⟨D',N,(World.putObj_heap_other (λe=>by subst e;exact hn d Li (by rw[N]))).trans Q,h3,h4,adJ (λd' hd=>hn d' (Mw _ hd)) h5⟩
theorem nT {CJ : List gX} {f : FuncId} {fn : Func} {sf : aU} {Sp : bT} (hS : ∀ g, (Uc g).Ok P g) (hE : ∀ t ∈ BD, dc P t) (hI : kG P BD CJ) (hf : P.funcs[f]? = some fn) (hn : (fn.name == "runtime.NumGoroutine") = false) (hc : ek P BD CJ fn = some sf)
 (h:∀w0 args lh K,WF lh->jd (λj=>j<lh.length) args->Sp w0 args lh K->FH w0 Uc sf args lh (Rb lh.length K)):Sp.Sound P f:=by
 intro B m lh w args vs K hrel hargs YR
 have y:=h B.w0 args lh K hrel.wf (fZ (λj b hb=>Classical.byContradiction λhn=>by rw[hrel.dom j I]at hb;cases hb) args vs hargs) YR
 unfold ek at hc
 split at hc
 ·rename_i c hb
  split at hc
  ·rename_i s rs hs hr
   cases hc
   refine⟨⟨fn,hf,hn,by rw[hb];rfl⟩,?_⟩
   refine(callsIn_wide (n:=0)).1 (callsIn_of_wp_marks hf hb trivial (wpIn_mono (wOf hS hE hI c Fence.wide 0 lh.length B s _ lh m _ w _ afy (.inl rfl) hs ?_ y) λe a w' hq=>?_))
   ·refine⟨?_,trivial,hrel⟩
    simp[Qo,Array.toList_replicate,List.size_toArray]
    rw[cB hargs]
    exact dW (by simpa using hargs) (gh _ _)
   ·obtain ⟨x,sl,lh',m',rfl,N,Q,_,h3⟩:=hq
    have key:iW B.w0 sl lh' rs (λvs=>Rb lh.length K (pM vs) lh')->∀ (ds:List Deferred) (w1:World),jq B ds w1->SR B m' sl lh' { a with defers:=[] } w1->LeavesInM Fence.wide 0 P fn a.tmps (λe w'=>∃ v r m' lh',e=.returned v/\CL m' r v/\iq lh m lh' m'/\ba B m' lh' w'/\K r lh') ds .returning w1:=λy ds=>by
     induction ds with
     |nil=>
       intro w1 _ ZV
       let ⟨ys,us,g1,g2,g3⟩:=kN ZV fn.results.toList rs _ hr y
       let ⟨r1,lh1,hsub,hK⟩:=g2
       have hone:CL m' (pM ys) (rP us):=by
        match ys,g1 with
        |[],g1=>simp[aC]at g1;subst g1;simp[pM,rP,CL,aC]
        |[At],g1=>simp only[aC]at g1;obtain⟨u,us',rfl,g4,rfl⟩:=g1;exact g4
        |At::z::l,g1=>
           have g1':=g1
           simp[aC]at g1'
           obtain⟨u,us1,rfl,_,u2,us2,rfl,_⟩:=g1'
           simp only[pM,rP,CL]
           exact⟨_,rfl,by simpa using g1⟩
       let ⟨m1,Zn,w5⟩:=hsub.rel (B:={ B with ds:=[] }) (a:=⟨#[rP us],[]⟩) (m:=m') (w:=w1) ⟨by simp only[aC];exact⟨_,_,rfl,hone,rfl⟩,rfl,ZV.2.2.withDs _⟩
       have g8:=Zn.1
       simp only[aC]at g8
       let ⟨u,us',e,g5,_⟩:=g8
       simp at e
       exact⟨_,C99 g3,_,r1,m1,lh1,rfl,by rw[e.1];exact g5,BZ hrel (Q.trans w5),Zn.2.2.noDs,hK⟩
     |cons d ds ih=>
       intro w1 hm ZV
       obtain⟨Bp,rfl,hD,hb,hd,Zl⟩:=hm
       refine⟨aD,.inl ⟨Bp,_,rfl,run_takeDeferred hD,ih _ ?_ ⟨ZV.1,trivial,ZV.2.2.putObj hD rfl hb.1 hb.2 _⟩⟩⟩
       refine adJ hd Zl
    cases x with
    |normal=>exact key h3 a.defers w' N.2.1 ⟨N.1,trivial,N.2.2⟩
    |exit i=>exact h3.elim
    |ret=>exact key h3 a.defers w' N.2.1 ⟨N.1,trivial,N.2.2⟩
  ·cases hc
 ·cases hc
end
end Go.Sx
namespace Go.Sx
def Yo:bT:=λ_ _ _ _=>False
section
variable {P:Program} {BD:List TypeId}
theorem MS (f:FuncId):Yo.Ok P f:=⟨λ_ _ _ _ _ _ _ _ _ h=>h.elim,λ_ _ _ _ _ _ h=>h.elim,λ_ _ _ _ h=>h.elim⟩
end
theorem aiG {lh l:List av} {K:ah->List av->Prop} {r:ah} (h:km (λk=>k<lh.length) r) (hc:WF lh) (hK:K r lh):Rb lh.length K r (lh++l):=by
 refine⟨r,lh,.inr ⟨id,λ_ _=>rfl,Dm _,λk hk _=>(Ht hk).symm,?_,λk cs ty hk=>⟨cs,?_,?_⟩,λ_ _ _ _ h=>h⟩,hK⟩
 ·exact rq (by simp only[jd];exact⟨Bi (λk hk=>.inl hk) r h,trivial⟩)
 ·rw[id,Ht (List.getElem?_eq_some_iff.1 hk).1];exact hk
 ·exact rq (jL (λk hk=>.inl hk) cs (hc k cs ty hk))
end Go.Sx
namespace Go.Dx
open Go.Sx
inductive V where|int (k:IntKind) (n:Int)|bool (b:Bool)|kb (b:Bool)|str (s:ByteArray)|agg (cs:List V)|tup (vs:List V)|fn (f:FuncId) (xs ys:List V)|sl (n:Nat) (f:Nat->List V)|pd (cs:List V)|pl (k off:Nat)|pe (k i j:Nat)|ss (k off n c:Nat)|gs (k n:Nat)|ns|np|any|gd (b:Bool) (v:V)|yl (l:Nat)|go (k off n:Nat)|sq (n m:Nat) (f:Nat->List V)
inductive AX where|cells (cs:List V) (ty:TypeId)|gl (esz n:Nat) (f:Nat->List V) (ty:TypeId)|dead|hid
abbrev bV:=List (Nat×V)
abbrev bl:=Nat->List V
structure RD where
 ps:List Nat
 asg:gt
 body:gt
 e0:bV
 l:Nat
inductive BB where|s (c:gt)|i (c:ik) (rd:RD)
inductive Bj (α:Type) where|ret (a:α)|br (b:Bool) (x At:Bj α)|ob (b:Bool) (x:Bj α)|obi (c d:Bool) (x:Bj α)|obp (p:Prop) (x:Bj α)|obq (a b:List V) (x:Bj α)|fail (why:Nat)|loop (fr:Nat×Nat) (body:BB) (e:bV) (h:List AX) (g:Option Ex) (k:Ex->bV->List AX->Option Ex->Bj α)|all (f:Nat->Bj α)|und (x At:Bj α)|asm (p:Prop) (x:Bj α)
def jc:bV->Nat->V
 |[],_=>.any|(d,v)::e,i=>cond (Nat.beq i d) v (jc e i)
def gk {α:Type}:List α->Nat->Option α
 |[],_=>none|a::_,0=>some a|_::l,i+1=>gk l i
def xW {α:Type}:List α->Nat->α->List α
 |[],_,_=>[]|_::l,0,b=>b::l|a::l,i+1,b=>a::xW l i b
def Eh {α:Type}:List α->α->List α
 |[],b=>[b]|a::l,b=>a::Eh l b
def v6 {α:Type}:List α->List α->List α
 |[],b=>b|a::l,b=>a::v6 l b
def bU {α:Type}:List α->Nat
 |[]=>0|_::l=>bU l+1
def qL {α:Type}:Nat->List α->Option (List α)
 |0,l=>some l|_+1,[]=>none|n+1,_::l=>qL n l
def vJ {α:Type}:Nat->List α->Option (List α)
 |0,_=>some []|_+1,[]=>none
 |n+1,a::l=>match vJ n l with|some r=>some (a::r)|none=>none
def C3 {α:Type} (l:List α) (off n:Nat):Option (List α) :=
 match qL off l with
 |some r=>vJ n r|none=>none
def pK {α:Type}:List α->Nat->List α->Option (List α)
 |cs,0,[]=>some cs|[],0,_::_=>none
 |_::cs,0,x::xs=>match pK cs 0 xs with|some r=>some (x::r)|none=>none
 |[],_+1,_=>none
 |c::cs,off+1,xs=>match pK cs off xs with|some r=>some (c::r)|none=>none
def EU:ah->V
 |.int k n=>.int k n|.bool b=>.kb b|.str s=>.str s|.ptr none=>.np|.slice none 0 0=>.ns|.fn (.func f) [] []=>.fn f [] []|_=>.any
def dF (e:bV):fM->V
 |.t i=>jc e i|.k a=>EU a
def V.one:V->Bool
 |.agg _|.tup _|.any|.gd ..|.yl _=>false|_=>true
def V.fc:V->Bool
 |.agg _|.tup _|.fn ..|.gd ..|.yl _=>false|_=>true
def V.cells:V->List V
 |.agg cs=>cs|v=>[v]
def V.flat:V->Bool
 |.agg cs=>cs.all V.one|v=>v.one
section
variable {α:Type}
def ig (ctx:Bool) (v:V) (K:V->Bj α):Bj α :=
 match v with
 |.gd b v=>.obi ctx b (K v)|v=>K v
def tc (ctx:Bool) (e:bV):List fM->(List V->Bj α)->Bj α
 |[],K=>K []|x::xs,K=>ig ctx (dF e x) λv=>tc ctx e xs λvs=>K (v::vs)
def s8 (ctx:Bool) (e:bV):Option fM->(Option V->Bj α)->Bj α
 |none,K=>K none|some x,K=>ig ctx (dF e x) λv=>K (some v)
def wq (ctx:Bool) (p:Prop) [Decidable p] (x:Bj α):Bj α:=.obi ctx (decide p) x
def fR (pl:Option Nat) (h:List AX) (o:AX) (K:Nat->List AX->Bj α):Bj α :=
 match pl with
 |none=>K (bU h) (Eh h o)
 |some p=>match gk h p with|some .dead=>K p (xW h p o)|_=>.fail 1
def pp (ctx:Bool) (e:bV):List (Nat×Nat×fM)->List V->(List V->Bj α)->Bj α
 |[],z,K=>K z
 |(off,n,x)::ps,z,K=>ig ctx (dF e x) λv=>
   cond (v.flat&&Nat.beq (bU v.cells) n) (match pK z off v.cells with|some z=>pp ctx e ps z K|none=>.fail 2) (.fail 3)
def NC (ctx:Bool) (op:BinOp) (k:IntKind) (a b:Int) (K:V->Bj α):Bj α :=
 match op with
 |.add=>K (.int k (k.wrap (a+b)))|.sub=>K (.int k (k.wrap (a-b)))|.mul=>K (.int k (k.wrap (a*b)))|.quo=>wq ctx (b≠0) (K (.int k (k.wrap (a.tdiv b))))|.rem=>wq ctx (b≠0) (K (.int k (a.tmod b)))|.eql=>K (.bool (a==b))|.neq=>K (.bool (a !=b))|.lss=>K (.bool (decide (a<b)))|.leq=>K (.bool (decide (a<=b)))|.gtr=>K (.bool (decide (b<a)))|.geq=>K (.bool (decide (b<=a)))|.and=>K (.int k (bits .and k a b))|.or=>K (.int k (bits .or k a b))|.xor=>K (.int k (bits .xor k a b))|.shl=>wq ctx (0<=b) (K (.int k (k.wrap (a*2 ^ min b.toNat k.bits))))|.shr=>wq ctx (0<=b) (K (.int k (a.fdiv (2 ^ min b.toNat k.bits))))|_=>.fail 4
def As (ctx:Bool) (op:BinOp) (x At:V) (K:V->Bj α):Bj α :=
 match x,At with
 |.int k a,.int k' b=>match decEq k k' with|.isTrue _=>NC ctx op k a b K|.isFalse _=>.fail 5
 |.str a,.str b=>match op with|.eql=>K (.bool (a.toList==b.toList))|.neq=>K (.bool !(a.toList==b.toList))|.add=>wq ctx (((a.size+b.size:Nat):Int)<=IntKind.i64.max) (K (.str (a++b)))|_=>.fail 6
 |_,_=>.fail 7
def mW:V->Option Bool
 |.bool b=>some b|.kb b=>some b|_=>none
mutual
def MF (c:Bool):V->V->Option V
 |.int k a,.int k' b=>match decEq k k' with|.isTrue _=>some (.int k (cond c a b))|.isFalse _=>none
 |.bool a,At=>match mW At with|some b=>some (.bool (cond c a b))|none=>none
 |.kb a,At=>match mW At with|some b=>some (.bool (cond c a b))|none=>none
 |.str a,.str b=>some (.str (cond c a b))
 |.agg xs,.agg ys=>match Hh c xs ys with|some zs=>some (.agg zs)|none=>none
 |_,_=>none
def Hh (c:Bool):List V->List V->Option (List V)
 |[],[]=>some []
 |x::xs,At::ys=>match MF c x At with
   |some z=>match Hh c xs ys with|some zs=>some (z::zs)|none=>none
   |none=>none
 |_,_=>none
end
def Cd:List V->List V->Option Bool
 |[],[]=>some true
 |.int k a::xs,.int k' b::ys=>match decEq k k' with
   |.isTrue _=>match Cd xs ys with|some r=>some (a==b&&r)|none=>none
   |.isFalse _=>none
 |_,_=>none
def PX (isMax:Bool):V->List V->Option V
 |x,[]=>some x
 |.int k a,.int k' b::xs=>match decEq k k' with|.isTrue _=>PX isMax (.int k (if isMax then max a b else min a b)) xs|.isFalse _=>none
 |_,_=>none
def lT (ctx:Bool) (x:Option V) (At d:Nat) (K:Nat->Bj α):Bj α :=
 match x with
 |none=>K d|some (.int _ i)=>wq ctx (0<=i/\i<=At) (K i.toNat)|_=>.fail 8
def Rp (m l a b:Nat):Nat:=cond (Nat.beq m l) a b
def lY (esz:Nat) (l:List V):Bool:=Nat.beq (bU l) esz&&l.all V.one
def HC:Nat->(Nat->Bool)->Bool
 |0,_=>true|n+1,p=>HC n p&&p n
def CI (h:List AX) (esz:Nat):V->Option (Nat×(Nat->List V)×Bool)
 |.ns=>some (0,λ_=>[],true)|.sl n f=>some (n,f,HC n λi=>lY esz (f i))
 |.gs k n=>match gk h k with|some (.gl e n' f _)=>cond (Nat.beq e esz) (some (n,f,Nat.ble n n')) none|_=>none
 |.ss k off n _=>match gk h k with
   |some (.cells cs _)=>match C3 cs off (n*esz) with
     |some ds=>cond (ds.all V.one) (match n with|1=>some (1,λ_=>ds,true)|n=>some (n,λi=>(ds.drop (i*esz)).take esz,true)) none
     |none=>none
   |_=>none
 |.go k off n=>match gk h k with|some (.gl e n' f _)=>cond (Nat.beq e esz) (some (n,λi=>f (off+i),Nat.ble (off+n) n')) none|_=>none
 |_=>none
def dl (n:Nat) (f g:bl) (i:Nat):List V:=cond (Nat.blt i n) (f i) (g (i-n))
abbrev CF (α:Type):=FuncId->List V->List AX->(V->List AX->Bj α)->Bj α
def Zh (pl:Option Nat) (h:List AX) (ty:TypeId) (esz bytes:Nat) (s x:V) (K:V->List AX->Bj α):Bj α :=
 match CI h esz x with
 |none=>.fail 10
 |some (m,g,X1)=>.ob X1 (match s with
   |.ns=>.ob (decide (m*bytes<=140737488355328)&&!Nat.beq bytes 0) (fR pl h (.gl esz m g ty) λp h=>K (.gs p m) h)
   |.gs k n=>match gk h k with
     | some (.gl e n' f ty')=>cond (Nat.beq e esz&&Nat.beq ty ty') (.ob (decide (n<=n'/\(n+m)*bytes<=140737488355328)&&!Nat.beq bytes 0)
        (fR pl (xW h k .hid) (.gl esz (n+m) (dl n f g) ty) λp h=>K (.gs p (n+m)) h)) (.fail 11)
     |_=>.fail 12
   |.ss k off n c=>match CI h esz (.ss k off n c) with
     |some (_,f,_)=>match n,c with
       |0,0=>match gk h k with|some (.cells [] ty')=>cond (Nat.beq ty ty'&&Nat.beq off 0) (.ob (decide (m*bytes<=140737488355328)&&!Nat.beq bytes 0) (fR pl (xW h k .hid) (.gl esz m g ty) λp h=>K (.gs p m) h)) (.fail 15)|_=>.fail 16
       |_,_=>match x with|.go _ _ _=>.br (Nat.beq m 0) (.ob (Nat.ble n c) (K (.ss k off n c) h)) (.ob (decide (c<n+m/\(n+m)*bytes<=140737488355328)&&!Nat.beq bytes 0) (fR pl h (.gl esz (n+m) (dl n f g) ty) λp h=>K (.gs p (n+m)) h))|_=>.ob (decide (c<n+m/\(n+m)*bytes<=140737488355328)&&!Nat.beq bytes 0) (fR pl h (.gl esz (n+m) (dl n f g) ty) λp h=>K (.gs p (n+m)) h)
     |none=>.fail 13
   |_=>.fail 14)
def QJ (h:List AX):V->Option V
 |.pl k off=>match gk h k with|some (.cells cs _)=>gk cs off|_=>none
 |.pe k i j=>match gk h k with|some (.gl _ _ f _)=>gk (f i) j|_=>none
 |.pd cs=>gk cs 0|_=>none
def QO (h:List AX) (n:Nat):V->Option (List V)
 |.pl k off=>match gk h k with|some (.cells cs _)=>C3 cs off n|_=>none
 |.pe k i j=>match gk h k with|some (.gl _ _ f _)=>C3 (f i) j n|_=>none
 |.pd cs=>vJ n cs|_=>none
def He (l:List V) (i:Nat):V:=match gk l i with|some v=>v|none=>.any
def Tb (cs:List V) (j:Nat) (xs:List V):Nat->Nat->List V
 |_,0=>[]|t,m+1=>cond (Nat.ble j t&&Nat.blt t (j+bU xs)) (He xs (t-j)) (He cs t)::Tb cs j xs (t+1) m
def QY (e:Nat) (cs:List V) (j:Nat) (xs:List V):Option (List V):=cond (Nat.ble (j+bU xs) e) (some (Tb cs j xs 0 e)) none
def RB (e:Nat) (f:bl) (i j:Nat) (xs:List V):Nat->List V:=λi'=>cond (Nat.beq i' i) (Tb (f i) j xs 0 e) (f i')
def Ss (h:List AX) (xs:List V):V->Option (List AX)
 |.pl k off=>match gk h k with
   |some (.cells cs ty)=>match pK cs off xs with|some cs=>some (xW h k (.cells cs ty))|none=>none
   |_=>none
 |.pe k i j=>match gk h k with|some (.gl e n f ty)=>cond (Nat.ble (j+bU xs) e) (some (xW h k (.gl e n (RB e f i j xs) ty))) none|_=>none
 |_=>none
def Jn:Nat->List V
 |0=>[]|n+1=>.int .i64 0::Jn n
def RR (ctx:Bool) (h:List AX) (v:V) (x:Bj α):Bj α :=
 match v with
 |.pe k i _=>match gk h k with|some (.gl _ n _ _)=>wq ctx (i<n) x|_=>.fail 17
 |_=>x
def zQ (cf:CF α) (ctx:Bool) (pl:Option Nat) (op:kl) (e:bV) (h:List AX) (K:V->List AX->Bj α):Bj α :=
 match op with
 |.mov x=>ig ctx (dF e x) λv=>K v h
 |.pick c a b=>ig ctx (dF e c) λc=>match c with
   |.kb true=>ig ctx (dF e a) λv=>K v h
   |.kb false=>ig ctx (dF e b) λv=>K v h
   |.bool c=>ig (ctx&&c) (dF e a) λx=>ig (ctx&&!c) (dF e b) λAt=>match MF c x At with
     |some v=>K v h
     |none=>.br c (K x h) (K At h)
   |.tup _=>.obi ctx false (K .any h)
   |_=>.fail 20
 |.new ty z=>fR pl h (.cells (z.map EU) ty) λp h=>K (.pl p 0) h
 |.box ty x=>ig ctx (dF e x) λv=>cond v.flat (fR pl h (.cells v.cells ty) λp h=>K (.pl p 0) h) (.fail 21)
 |.agg z ps=>pp ctx e ps (z.map EU) λcs=>K (.agg cs) h
 |.bsl ty n z ps=>pp ctx e ps (z.map EU) λcs=>fR pl h (.cells cs ty) λp h=>K (.ss p 0 n n) h
 |.ld a=>ig ctx (dF e a) λa=>RR ctx h a (match QJ h a with
   |some v=>K v h
   |none=>.fail 22)
 |.lds n a=>ig ctx (dF e a) λa=>RR ctx h a (match QO h n a with
   |some cs=>K (.agg cs) h
   |none=>.fail 23)
 |.st n a x=>ig ctx (dF e a) λa=>ig ctx (dF e x) λv=>RR ctx h a (cond (v.flat&&Nat.beq (bU v.cells) n) (match Ss h v.cells a with
    |some h=>K (.tup []) h
    |none=>.fail 24) (.fail 25))
 |.nz x=>ig ctx (dF e x) λv=>match v with
   |.pl k o=>K (.pl k o) h
   |.pe k i j=>K (.pe k i j) h
   |.pd cs=>K (.pd cs) h
   |.fn f a b=>K (.fn f a b) h
   |_=>.fail 26
 |.bin op x At=>ig ctx (dF e x) λx=>ig ctx (dF e At) λAt=>As ctx op x At λv=>K v h
 |.eqa neg n x At=>ig ctx (dF e x) λx=>ig ctx (dF e At) λAt=>match x,At with
   |.agg xs,.agg ys=>match Cd xs ys with
     |some b=>cond (Nat.beq (bU xs) n) (K (.bool (if neg then !b else b)) h) (.fail 27)
     |none=>.fail 28
   |_,_=>.fail 29
 |.eqb neg x At=>ig ctx (dF e x) λx=>ig ctx (dF e At) λAt=>match mW x,mW At with
   |some a,some b=>K (.bool (if neg then !(a==b) else a==b)) h
   |_,_=>.fail 30
 |.un op x=>ig ctx (dF e x) λx=>match op,x with
   |.neg,.int k n=>K (.int k (k.wrap (0-n))) h
   |.not,.bool b=>K (.bool !b) h
   |.not,.kb b=>K (.kb !b) h
   |_,_=>.fail 31
 |.conv k x=>ig ctx (dF e x) λx=>match x with
   |.int _ n=>K (.int k (k.wrap n)) h
   |_=>.fail 32
 |.mkf f xs ys=>match f with
   |.func f=>tc ctx e xs λus=>tc ctx e ys λvs=>K (.fn f us vs) h
   |_=>.fail 33
 |.fa off x=>ig ctx (dF e x) λx=>match x with
   |.pl k o=>K (.pl k (o+off)) h
   |.pe k i j=>K (.pe k i (j+off)) h
   |.pd cs=>match qL off cs with
     |some cs=>K (.pd cs) h
     |none=>.fail 34
   |_=>.fail 35
 |.fld off n x=>ig ctx (dF e x) λx=>match x with
   |.agg cs=>match n with
     |some n=>match C3 cs off n with
       |some ds=>K (.agg ds) h
       |none=>.fail 36
     |none=>match gk cs off with
       |some v=>K v h
       |none=>.fail 37
   |_=>.fail 38
 |.iaA n esz x ix=>ig ctx (dF e x) λx=>ig ctx (dF e ix) λix=>match x,ix with
   |.pl k o,.int _ i=>wq ctx (0<=i/\i<n) (K (.pl k (o+i.toNat*esz)) h)
   |.pe k j o,.int _ i=>wq ctx (0<=i/\i<n) (K (.pe k j (o+i.toNat*esz)) h)
   |.pd cs,.int _ i=>match qL (i.toNat*esz) cs with
     |some cs=>wq ctx (0<=i/\i<n) (K (.pd cs) h)
     |none=>.fail 39
   |_,_=>.fail 40
 |.iaS esz x ix=>ig ctx (dF e x) λx=>ig ctx (dF e ix) λix=>match x,ix with
   |.sl n f,.int _ i=>cond (Nat.beq (bU (f i.toNat)) esz) (wq ctx (0<=i/\i<n) (K (.pd (f i.toNat)) h)) (.fail 41)
   |.ss k o n _,.int _ i=>wq ctx (0<=i/\i<n) (K (.pl k (o+i.toNat*esz)) h)
   |.gs k n,.int _ i=>match gk h k with
     |some (.gl e n' _ _)=>cond (Nat.beq e esz) (wq ctx (0<=i/\i<n/\n<=n') (K (.pe k i.toNat 0) h)) (.fail 42)
     |_=>.fail 43
   |.go k off n,.int _ i=>match gk h k with
     |some (.gl e n' _ _)=>cond (Nat.beq e esz) (wq ctx (0<=i/\i<n/\off+n<=n') (K (.pe k (off+i.toNat) 0) h)) (.fail 42)
     |_=>.fail 43
   |.ns,.int _ i=>wq ctx (0<=i/\i<(0:Int)) (K (.pd (Jn esz)) h)
   |_,_=>.fail 44
 |.ixA n esz sz x ix=>ig ctx (dF e x) λx=>ig ctx (dF e ix) λix=>match x,ix with
   |.agg cs,.int _ i=>match sz with
     |some sz=>match C3 cs (i.toNat*esz) sz with
       |some ds=>wq ctx (0<=i/\i<n) (K (.agg ds) h)
       |none=>.fail 45
     |none=>match gk cs (i.toNat*esz) with
       |some v=>wq ctx (0<=i/\i<n) (K v h)
       |none=>.fail 46
   |_,_=>.fail 47
 |.ixS x ix=>ig ctx (dF e x) λx=>ig ctx (dF e ix) λix=>match x,ix with
   |.str s,.int _ i=>wq ctx (0<=i/\i<s.size) (K (.int .u8 ((s.data.toList.getD i.toNat 0).toNat:Int)) h)
   |_,_=>.fail 48
 |.len x=>ig ctx (dF e x) λx=>match x with
   |.sl n _=>.asm (ctx=true->n<=9223372036854775807) (K (.int .i64 n) h)
   |.ss _ _ n _=>K (.int .i64 n) h
   |.gs _ n=>K (.int .i64 n) h
   |.ns=>K (.int .i64 0) h
   |.go _ _ n=>K (.int .i64 n) h
   |_=>.fail 49
 |.lenT x=>ig ctx (dF e x) λx=>match x with
   |.str s=>K (.int .i64 s.size) h
   |_=>.fail 50
 |.lenA n=>K (.int .i64 n) h
 |.mm b x xs=>ig ctx (dF e x) λx=>tc ctx e xs λxs=>match PX b x xs with
   |some v=>K v h
   |none=>.fail 51
 |.ext x i=>ig ctx (dF e x) λx=>match x with
   |.tup vs=>match gk vs i with
     |some v=>K v h
     |none=>.fail 52
   |_=>.fail 53
 |.slS esz x lo hi mx=>ig ctx (dF e x) λx=>s8 ctx e lo λlo=>s8 ctx e hi λhi=>s8 ctx e mx λmx=>match x with
   |.sl n f=>match mx with
     |none=>cond (Nat.beq (bU (f 0)) esz) (lT ctx hi n n λb=>lT ctx lo b 0 λa=>K (.sl (b-a) (λi=>f (a+i))) h) (.fail 19)
     |some _=>.fail 54
   |.gs k n=>match mx,lo with
     |none,none=>lT ctx hi n n λb=>K (.gs k b) h
     |none,some lo=>match gk h k with
       |some (.gl e _ _ _)=>cond (Nat.beq e esz) (lT ctx hi n n λb=>lT ctx (some lo) b 0 λa=>K (.go k a (b-a)) h) (.fail 104)
       |_=>.fail 105
     |_,_=>.fail 55
   |.ss k o n c=>lT ctx mx c c λm=>lT ctx hi m n λb=>lT ctx lo b 0 λa=>K (.ss k (Rp m a o (o+a*esz)) (b-a) (m-a)) h
   |.ns=>match mx with
     |none=>lT ctx hi 0 0 λb=>lT ctx lo b 0 λ_=>K .ns h
     |some _=>.fail 56
   |_=>.fail 57
 |.slA n esz x lo hi mx=>ig ctx (dF e x) λx=>s8 ctx e lo λlo=>s8 ctx e hi λhi=>s8 ctx e mx λmx=>match x with
   |.pl k o=>lT ctx mx n n λm=>lT ctx hi m n λb=>lT ctx lo b 0 λa=>K (.ss k (Rp m a o (o+a*esz)) (b-a) (m-a)) h
   |_=>.fail 58
 |.slT x lo hi=>ig ctx (dF e x) λx=>s8 ctx e lo λlo=>s8 ctx e hi λhi=>match x with
   |.str s=>lT ctx hi s.size s.size λb=>lT ctx lo b 0 λa=>K (.str (s.extract a b)) h
   |_=>.fail 59
 |.app ty esz bytes z s x=>ig ctx (dF e s) λs=>ig ctx (dF e x) λx=>cond (Nat.beq (bU z) esz) (Zh pl h ty esz bytes s x K) (.fail 18)
 |.mks ty n cs=>fR pl h (.cells (cs.map EU) ty) λp h=>K (.ss p 0 n n) h
 |.call f xs=>tc ctx e xs λvs=>cf f vs h K
 |.callv x xs=>ig ctx (dF e x) λx=>tc ctx e xs λvs=>match x with
   |.fn f a b=>cf f (v6 (v6 a vs) b) h K
   |_=>.fail 60
 |.isn neg x=>ig ctx (dF e x) λx=>match x with
   |.ns=>K (.kb (!neg)) h
   |.ss ..=>K (.kb neg) h
   |.sl n _=>.und (.asm (n=0) (K (.kb (!neg)) h)) (K (.kb neg) h)
   |.gs _ n=>.und (.asm (n=0) (K (.kb (!neg)) h)) (K (.kb neg) h)
   |_=>.fail 100
 |.clr esz z x=>ig ctx (dF e x) λx=>match x with
   |.go k off n=>match gk h k with
     |some (.gl e n' f ty)=>cond (Nat.beq e esz&&lY e (z.map EU)) (.ob (decide (0<n/\off+n<=n')) (K (.tup []) (xW h k (.gl e n' (λi=>cond (Nat.ble off i&&Nat.blt i (off+n)) (z.map EU) (f i)) ty)))) (.fail 101)
     |_=>.fail 102
   |_=>.fail 103
def kC:kl->Bool
 |.new ..|.box ..|.bsl ..|.st ..|.app ..|.mks ..|.call ..|.callv ..|.clr ..=>false|_=>true
def ec (e:bV) (d:Option Nat) (v:V):bV :=
 match d with
 |some d=>(d,v)::e|none=>e
def gB (b want:Bool):Bool:=match want with|true=>b|false=>!b
def gr (cf : CF α):List ia->bV->List AX->(bV->List AX->Bj α)->Bj α
 |[],e,h,K=>K e h
 |o::rest,e,h,K=>
   match o.guard with
   |none=>zQ cf true none o.op e h λv h=>gr cf rest (ec e o.dst v) h K
   |some (d,want)=>
     match jc e d with
     |.kb b=>match decEq b want with
       |.isTrue _=>zQ cf true none o.op e h λv h=>gr cf rest (ec e o.dst v) h K
       |.isFalse _=>gr cf rest (ec e o.dst (.tup [])) h K
     |.tup _=>gr cf rest (ec e o.dst (.tup [])) h K|.int ..=>gr cf rest (ec e o.dst (.tup [])) h K
     |.bool b=>match kC o.op with
       |true=>zQ cf (gB b want) none o.op e h λv _=>gr cf rest (ec e o.dst (.gd (gB b want) v)) h K
       | false=>.br (gB b want) (zQ cf true none o.op ((d,.kb want)::e) h λv h=>gr cf rest (ec ((d,.kb want)::e) o.dst v) h K)
          (gr cf rest (ec ((d,.kb (!want))::e) o.dst (.tup [])) h K)
     |.gd c v=>match mW v with
       |none=>match v with|.tup _=>gr cf rest (ec e o.dst (.tup [])) h K|_=>.fail 62
       |some b=>match kC o.op with
         |true=>zQ cf (c&&gB b want) none o.op e h λv _=>gr cf rest (ec e o.dst (.gd (c&&gB b want) v)) h K
         | false=>.br (c&&gB b want) (zQ cf true none o.op ((d,.kb want)::e) h λv h=>gr cf rest (ec ((d,.kb want)::e) o.dst v) h K)
            (gr cf rest (ec e o.dst (.tup [])) h K)
     |_=>.fail 61
end
def v8 (k:Nat):List Nat->Bool
 |[]=>false|x::l=>cond (Nat.beq k x) true (v8 k l)
def Du:List Nat->List Nat->Bool
 |[],_=>true|k::l,XI=>v8 k XI&&Du l XI
def H3:List Nat->List Nat->Bool
 |[],_=>true|k::l,XI=>!v8 k XI&&H3 l XI
def eG (h:List AX) (k:Nat):Bool :=
 match gk h k with
 |some (.cells ..)=>true|some (.gl ..)=>true|_=>false
def jt (h:List AX):V->Option (List Nat)
 |.pl k _=>cond (eG h k) (some [k]) none|.pe k _ _=>cond (eG h k) (some [k]) none|.ss k _ _ _=>cond (eG h k) (some [k]) none|.gs k _=>cond (eG h k) (some [k]) none|.ns=>some []|_=>none
def EX (h:List AX) (e:bV) (H:Nat):Np->Option (List Nat)
 |.fresh r=>some [H+r]|.slot s=>jt h (jc e s)
 |.load s off=>match jc e s with
   |.pl k o=>match QJ h (.pl k (o+off)) with|some v=>jt h v|none=>none
   |_=>none
def rW (h:List AX) (e:bV) (H:Nat):List Np->Option (List Nat)
 |[]=>some []
 |x::l=>match EX h e H x,rW h e H l with|some a,some b=>some (v6 a b)|_,_=>none
def r5 (h:List AX) (e:bV) (H:Nat):List hJ->Option (List (List Nat))
 |[]=>some []
 |d::l=>match rW h e H d.ws,r5 h e H l with|some a,some b=>some (a::b)|_,_=>none
def dK (Ws:List (List Nat)) (i:Nat):List Nat:=match gk Ws i with|some l=>l|none=>[]
def mN (Ws:List (List Nat)):List Nat->List Nat
 |[]=>[]|u::un=>v6 (dK Ws u) (mN Ws un)
def r6 (Ws:List (List Nat)):List hJ->Nat->Bool
 |[],_=>true|d::l,i=>H3 (dK Ws i) (mN Ws d.un)&&r6 Ws l (i+1)
def ja (X:List Nat):List AX->Nat->List AX
 |[],_=>[]|o::h,k=>cond (v8 k X) AX.hid o::ja X h (k+1)
def jm (X:List Nat) (h:List AX):List AX:=match X with|[]=>h|_=>ja X h 0
def kM (XI:List Nat) (l:List AX):List AX->Nat->List AX
 |[],_=>[]
 |o::h,k=>cond (v8 k XI) (match gk l k with|some o'=>o'|none=>o) o::kM XI l h (k+1)
def Ot (XI:List Nat) (h l:List AX):List AX:=kM XI l h 0
def u5 (Ws:List (List Nat)) (Y:List Nat):List hJ->Nat->Nat->Bool
 |[],_,_=>true
 |d::l,i,j=>cond (Nat.blt i j) ((match d.rk with|none=>true|some _=>H3 (dK Ws i) Y||Du (dK Ws i) Y)&&u5 Ws Y l (i+1) j) true
def wY (Ws:List (List Nat)) (all:List hJ):List hJ->Nat->Bool
 |[],_=>true|d::l,j=>(u5 Ws (dK Ws j) all 0 j&&u5 Ws (mN Ws d.un) all 0 j)&&wY Ws all l (j+1)
def undead:List AX->List AX
 |[]=>[]
 |o::h=>(match o with|.dead=>.hid|o=>o)::undead h
def deads:Nat->List AX
 |0=>[]|n+1=>.dead::deads n
def QL (h:List AX) (e:bV) (pl:Option Nat):kl->Option (List Nat)
 |.st _ a _=>jt h (dF e a)
 |.app _ _ _ _ s _=>match jt h (dF e s),pl with|some l,some p=>some (p::l)|_,_=>none
 |.new ..|.box ..|.bsl ..|.mks ..=>match pl with|some p=>some [p]|none=>none
 |.call ..|.callv ..=>some []|.clr ..=>none|_=>some []
def R5 (pl:Option Nat) (l:List Nat):List Nat:=match pl with|some p=>p::l|none=>l
section
variable {α:Type}
abbrev CP (α:Type):=Bool->FuncId->List V->List AX->(V->Bj α)->Bj α
def PV (cp:CP α) (Ws:List (List Nat)) (H:Nat) (d:hJ) (i:Nat) (e:bV) (h:List AX) (K:V->List AX->Bj α):Bj α :=
 match kC d.o.op with
 |true=>zQ (λf vs h K=>cp false f vs h λv=>K v h) true none d.o.op e (jm (mN Ws d.un) h) λv _=>K v h
 |false=>match QL (jm (mN Ws d.un) h) e (d.rk.map (H+·)) d.o.op with|none=>.fail 63|some l=>cond (Du (R5 (d.rk.map (H+·)) l) (dK Ws i)) (zQ (λf vs h K=>cp false f vs h λv=>K v h) true (d.rk.map (H+·)) d.o.op e (jm (mN Ws d.un) h) λv l=>K v (Ot (dK Ws i) h l)) (.fail 64)
def fv (cp : CP α) (Ws:List (List Nat)) (H:Nat):List hJ->Nat->bV->List AX->(bV->List AX->Bj α)->Bj α
 |[],_,e,h,K=>K e h
 |d::rest,i,e,h,K=>
   match d.o.guard with
   |none=>PV cp Ws H d i e h λv h=>fv cp Ws H rest (i+1) (ec e d.o.dst v) h K
   |some (g,want)=>
     match jc e g with
     |.kb b=>match decEq b want with
       |.isTrue _=>PV cp Ws H d i e h λv h=>fv cp Ws H rest (i+1) (ec e d.o.dst v) h K
       |.isFalse _=>fv cp Ws H rest (i+1) (ec e d.o.dst (.tup [])) h K
     |.tup _=>fv cp Ws H rest (i+1) (ec e d.o.dst (.tup [])) h K|.int ..=>fv cp Ws H rest (i+1) (ec e d.o.dst (.tup [])) h K
     |.bool b=>match kC d.o.op with
       |true=>zQ (λf vs h K=>cp false f vs h λv=>K v h) (gB b want) none d.o.op e (jm (mN Ws d.un) h) λv _=>fv cp Ws H rest (i+1) (ec e d.o.dst (.gd (gB b want) v)) h K
       | false=>.br (gB b want) (PV cp Ws H d i ((g,.kb want)::e) h λv h=>fv cp Ws H rest (i+1) (ec ((g,.kb want)::e) d.o.dst v) h K)
          (fv cp Ws H rest (i+1) (ec ((g,.kb (!want))::e) d.o.dst (.tup [])) h K)
     |.gd c v=>match mW v with
       |none=>match v with|.tup _=>fv cp Ws H rest (i+1) (ec e d.o.dst (.tup [])) h K|_=>.fail 65
       |some b=>match kC d.o.op with
         |true=>zQ (λf vs h K=>cp false f vs h λv=>K v h) (c&&gB b want) none d.o.op e (jm (mN Ws d.un) h) λv _=>fv cp Ws H rest (i+1) (ec e d.o.dst (.gd (c&&gB b want) v)) h K
         | false=>.br (c&&gB b want) (PV cp Ws H d i ((g,.kb want)::e) h λv h=>fv cp Ws H rest (i+1) (ec ((g,.kb want)::e) d.o.dst v) h K)
            (fv cp Ws H rest (i+1) (ec e d.o.dst (.tup [])) h K)
     |_=>.fail 66
def uo (cp:CP α) (ds:List hJ) (e:bV) (h:List AX) (K:bV->List AX->Bj α):Bj α :=
 match r5 (undead h) e (bU h) ds with
 |none=>.fail 67|some Ws=>cond (r6 Ws ds 0&&wY Ws ds ds 0) (fv cp Ws (bU h) ds 0 e (v6 (undead h) (deads (MJ ds))) K) (.fail 68)
def Qz (ev:bV->List AX->(Ex->bV->List AX->Bj α)->Bj α):Nat->bV->List AX->(Ex->bV->List AX->Bj α)->Bj α
 |0,_,_,_=>.fail 90
 |n+1,e,h,K=>ev e h λx e h=>match x with|.normal=>Qz ev n e h K|.exit i=>K (.exit i) e h|.ret=>K .ret e h
def SS (ev:bV->List AX->Option Ex->(Ex->bV->List AX->Option Ex->Bj α)->Bj α):Nat->bV->List AX->Option Ex->(Ex->bV->List AX->Option Ex->Bj α)->Bj α
 |0,_,_,_,_=>.fail 91
 |n+1,e,h,g,K=>ev e h g λx e h g=>match x with|.normal=>SS ev n e h g K|.exit i=>K (.exit i) e h g|.ret=>K .ret e h g
def pn:bV->List Nat->List V->bV
 |e,p::ps,x::xs=>pn ((p,x)::e) ps xs|e,_,_=>e
abbrev YV (α:Type):=List V->List AX->(Ex->List AX->Bj α)->Bj α
def HU (l:Nat) (Y:YV α) (t:Nat) (d:Option Nat) (xs:List fM) (e:bV) (h:List AX) (g:Option Ex) (XX:bV->List AX->Option Ex->Bj α):Bj α:=ig true (jc e t) λv=>match g,v with
 |none,.yl l'=>.obq [.yl l'] [.yl l] (tc true e xs λvs=>Y vs h λx h=>match x with|.normal=>XX (ec e d (.kb true)) h none|.exit i=>XX (ec e d (.kb false)) h (some (.exit i))|.ret=>XX (ec e d (.kb false)) h (some .ret))
 |_,_=>.fail 92
def dD (cf:CF α) (l:Nat) (Y:YV α):List mL->bV->List AX->Option Ex->(bV->List AX->Option Ex->Bj α)->Bj α
 |[],e,h,g,K=>K e h g|.op o::rest,e,h,g,K=>gr cf [o] e h λe h=>dD cf l Y rest e h g K
 |.yld t d xs::rest,e,h,g,K=>match g,jc e t with
   |none,.yl l'=>.obq [.yl l'] [.yl l] (tc true e xs λvs=>Y vs h λx h=>match x with|.normal=>dD cf l Y rest (ec e d (.kb true)) h none K|.exit i=>dD cf l Y rest (ec e d (.kb false)) h (some (.exit i)) K|.ret=>dD cf l Y rest (ec e d (.kb false)) h (some .ret) K)
   |_,_=>.fail 92
 |.yldG d want t dst xs::rest,e,h,g,K=>match jc e d with
   |.kb b=>match decEq b want with
     |.isTrue _=>HU l Y t dst xs e h g λe h g=>dD cf l Y rest e h g K
     |.isFalse _=>dD cf l Y rest (ec e dst (.tup [])) h g K
   |.tup _=>dD cf l Y rest (ec e dst (.tup [])) h g K|.int ..=>dD cf l Y rest (ec e dst (.tup [])) h g K|.bool b=>.br (gB b want) (HU l Y t dst xs ((d,.kb want)::e) h g λe h g=>dD cf l Y rest e h g K) (dD cf l Y rest (ec ((d,.kb (!want))::e) dst (.tup [])) h g K)
   |.gd c v=>match mW v with|none=>.fail 104|some b=>.br (c&&gB b want) (HU l Y t dst xs ((d,.kb want)::e) h g λe h g=>dD cf l Y rest e h g K) (dD cf l Y rest (ec e dst (.tup [])) h g K)
   |_=>.fail 105
abbrev kZ:=Nat->Nat
def ml (cf:CF α) (cp:CP α) (un:kZ) (fr:Nat×Nat) (rd:RD) (Y:YV α):Nat->ik->bV->List AX->Option Ex->(Ex->bV->List AX->Option Ex->Bj α)->Bj α
 |_,.skip,e,h,g,K=>K .normal e h g|_,.reg ops,e,h,g,K=>dD cf rd.l Y ops e h g (K .normal)|_,.draw ds,e,h,g,K=>uo cp ds e h λe h=>K .normal e h g
 |_,.drawY ds xs,e,h,g,K=>uo cp ds e h λe h=>dD cf rd.l Y xs e h g (K .normal)
 |bi,.seq a b,e,h,g,K=>ml cf cp un fr rd Y bi a e h g λx e h g=>match x with|.normal=>ml cf cp un fr rd Y bi b e h g K|.exit i=>K (.exit i) e h g|.ret=>K .ret e h g
 |bi,.cond c a b,e,h,g,K=>match dF e c with
   |.kb true=>ml cf cp un fr rd Y bi a e h g K|.kb false=>ml cf cp un fr rd Y bi b e h g K
   |.bool t=>match c with|.t s=>.br t (ml cf cp un fr rd Y bi a ((s,.kb true)::e) h g K) (ml cf cp un fr rd Y bi b ((s,.kb false)::e) h g K)|_=>.br t (ml cf cp un fr rd Y bi a e h g K) (ml cf cp un fr rd Y bi b e h g K)
   |_=>.fail 69
 |_,.block id b,e,h,g,K=>ml cf cp un fr rd Y id b e h g λx e h g=>match x with|.exit i=>cond (Nat.beq i id) (K .normal e h g) (K (.exit i) e h g)|.normal=>K .normal e h g|.ret=>K .ret e h g
 |bi,.loop b,e,h,g,K=>match un bi with|0=>.loop fr (.i b rd) e h g K|n+1=>SS (ml cf cp un fr rd Y bi b) (n+1) e h g K
 |_,.exit id,e,h,g,K=>K (.exit id) e h g|_,.ret,e,h,g,K=>K .ret e h g|bi,.scope b,e,h,g,K=>ml cf cp un fr rd Y bi b e h g K
def agN (K:Ex->bV->List AX->Bj α) (e:bV):Ex->bV->List AX->Option Ex->Bj α
 |.exit _,_,_,_=>.fail 93|.normal,_,h,none=>K .normal e h|.normal,_,h,some x=>K x e h|.ret,_,h,none=>K .normal e h|.ret,_,h,some x=>K x e h
def H4:List V->Nat->bV
 |[],_=>[]|v::vs,i=>(i,v)::H4 vs (i+1)
def B3 (cf:CF α):OT->bV->List AX->(bV->List AX->Bj α)->Bj α
 |.done,e,h,K=>K e h|.op o r,e,h,K=>gr cf [o] e h λe h=>B3 cf r e h K
 |.alt a b,e,h,K=>.und (B3 cf a e h K) (B3 cf b e h K)
def se (cf:CF α) (cp:CP α) (un:kZ):Nat×Nat->Nat->gt->bV->List AX->(Ex->bV->List AX->Bj α)->Bj α
 |_,_,.skip,e,h,K=>K .normal e h|_,_,.reg ops,e,h,K=>gr cf ops e h (K .normal)|_,_,.draw ds,e,h,K=>uo cp ds e h (K .normal)|_,_,.allo t,e,h,K=>B3 cf t e h (K .normal)|_,_,.alloq t,e,h,K=>B3 (λf vs h K=>cp true f vs h λv=>K v h) t e h (K .normal)
 |fr,bi,.seq a b,e,h,K=>se cf cp un fr bi a e h λx e h=>match x with|.normal=>se cf cp un fr bi b e h K|.exit i=>K (.exit i) e h|.ret=>K .ret e h
 |fr,bi,.cond c a b,e,h,K=>match dF e c with
   |.kb true=>se cf cp un fr bi a e h K|.kb false=>se cf cp un fr bi b e h K
   |.bool t=>match c with|.t s=>.br t (se cf cp un fr bi a ((s,.kb true)::e) h K) (se cf cp un fr bi b ((s,.kb false)::e) h K)|_=>.br t (se cf cp un fr bi a e h K) (se cf cp un fr bi b e h K)
   |_=>.fail 69
 |fr,_,.block id b,e,h,K=>se cf cp un fr id b e h λx e h=>match x with|.exit i=>cond (Nat.beq i id) (K .normal e h) (K (.exit i) e h)|.normal=>K .normal e h|.ret=>K .ret e h
 |fr,bi,.loop b,e,h,K=>match un bi with
   |0=>.loop fr (.s b) e h none λx e h _=>K x e h
   |n+1=>Qz (se cf cp un fr bi b) (n+1) e h K
 |_,_,.exit id,e,h,K=>K (.exit id) e h|_,_,.ret,e,h,K=>K .ret e h|fr,bi,.scope b,e,h,K=>se cf cp un fr bi b e h K
 |fr,bi,.range g ps asg body CJ,e,h,K=>match dF e g with
   |.fn f [] ys=>match AU CJ f with
     |some it=>cond (Nat.ble (bU ys+1) it.ntmps) (.all λl=>ml cf cp un (fr.1,bU h) ⟨ps,asg,body,e,l⟩ (λvs h K=>cond (Nat.beq (bU vs) (bU ps)) (se cf cp un (fr.1,bU h) bi asg (pn e ps vs) h λx e1 N=>match x with
        |.normal=>se cf cp un (fr.1,bU h) bi body e1 N λx _ Q=>K x Q
        |_=>.fail 94) (.fail 95)) 0 it.body ((0,.yl l)::H4 ys 1) h none (agN K e)) (.fail 96)
     |none=>.fail 97
   |_=>.fail 98
def sd (e:bV) (h:List AX):List zS->(List V->Bj α)->Bj α
 |[],K=>K []|.tmp t::l,K=>ig true (jc e t) λv=>sd e h l λvs=>K (v::vs)
 |.cell t n::l,K=>match n with
   |none=>RR true h (jc e t) (match QJ h (jc e t) with
     |some v=>sd e h l λvs=>K (v::vs)
     |none=>.fail 70)
   |some n=>RR true h (jc e t) (match QO h n (jc e t) with
     |some cs=>sd e h l λvs=>K (.agg cs::vs)
     |none=>.fail 71)
def rP:List V->V
 |[v]=>v|vs=>.tup vs
def mK (cf:CF α) (cp:CP α) (un:kZ) (lv:Nat) (sf:aU) (args:List V) (h:List AX) (K:V->List AX->Bj α):Bj α :=
 cond (Nat.ble (bU args) sf.ntmps) (se cf cp un (lv,bU h) 0 sf.body (H4 args 0) h λx e h=>match x with|.exit _=>.fail 72|_=>sd e h sf.res λvs=>K (rP vs) (undead h)) (.fail 73)
def bE (cs:List V) (off e:Nat):Nat->List V:=λi=>(cs.drop (off+i*e)).take e
def qV (v:V):V:=cond v.fc v .any
def kH (h:List AX):Nat->V->V
 |0,_=>.any
 |fu+1,v=>match v with
   |.int k n=>.int k n|.bool b=>.bool b|.kb b=>.bool b|.str s=>.str s|.sl n f=>.sl n f|.sq n m f=>.sq n m f|.pd cs=>.pd cs|.ns=>.sl 0 λ_=>[]
   |.agg cs=>.agg (cs.map (kH h fu))|.fn f xs ys=>.fn f (xs.map (kH h fu)) (ys.map (kH h fu))
   |.pl k off=>match gk h k with|some (.cells cs _)=>cond (Nat.ble off (bU cs)) (.pd ((cs.drop off).map λv=>qV (kH h fu v))) .any|_=>.any
   |.gs k n=>match gk h k with|some (.gl _ n' f _)=>cond (Nat.ble n n') (.sl n λi=>(f i).map λv=>qV (kH h fu v)) .any|_=>.any
   |.ss k off n c=>match gk h k with
     | some (.cells cs _)=>cond (Nat.ble n 9223372036854775807&&(Nat.ble n c&&Nat.ble (off+n*((bU cs-off) / c)) (bU cs)))
        (.sq n c (bE (cs.map λv=>qV (kH h fu v)) off ((bU cs-off) / c))) .any
     |_=>.any
   |_=>.any
def Bt:V->V
 |.int k n=>.int k n|.bool b=>.bool b|.kb b=>.bool b|.str s=>.str s|.sl n f=>.sl n f|.pd cs=>.pd cs|_=>.any
def xw (f:bl):Nat->List V:=λi=>(f i).map Bt
def E3 (h:List AX) (k n:Nat):V:=match gk h k with|some (.gl e _ f _)=>cond (Nat.beq e 6) (kH h 11 (.gs k n)) (.sl n (xw f))|_=>.any
def Fc (h:List AX):V->V
 |.gs k n=>E3 h k n|v=>kH h 11 v
def qS (h:List AX):V->V
 |.gs k n=>E3 h k n|.agg cs=>.agg (cs.map (Fc h))|v=>kH h 12 v
def FD (h:List AX) (k n:Nat):List (Nat×Nat):=match gk h k with|some (.gl _ n' _ _)=>[(n,n')]|_=>[]
def VJ (h:List AX):V->List (Nat×Nat)
 |.gs k n=>FD h k n|_=>[]
def C5 (h:List AX):List V->List (Nat×Nat)
 |[]=>[]|v::vs=>v6 (VJ h v) (C5 h vs)
def Xs (h:List AX):V->List (Nat×Nat)
 |.gs k n=>FD h k n|.agg cs=>C5 h cs|_=>[]
def pk (h:List AX):List V->List (Nat×Nat)
 |[]=>[]|v::vs=>v6 (Xs h v) (pk h vs)
def Oc:List (Nat×Nat)->Bj α->Bj α
 |[],x=>x|p::l,x=>.ob (Nat.ble p.1 p.2) (Oc l x)
end
end Go.Dx
namespace Go.Sx
inductive Bp where|v (a:ah)|ag (ds:List Bp)|sl (esz:Nat) (els:List (List Bp))|pt (ds:List Bp)|fn (f:FuncId) (xs ys:List Bp)
def bC:ah->Bool
 |.int ..|.bool ..|.str ..=>true|_=>false
def Bp.isC:Bp->Bool
 |.v _|.sl ..|.pt _=>true|_=>false
def UM (lh:List av):Option hU->Prop
 |some (.l k _)=>isCells lh[k]? = true|_=>True
section
variable (w0:World) (lh:List av)
mutual
def rd:Bp->ah->Prop
 |.v b,a=>bC b=true/\a=b|.ag ds,a=>∃cs,a=.agg cs/\R6 ds cs|.sl esz els,a=>∃p c,a=.slice p els.length c/\els.length<=9223372036854775807/\UM lh p/\Hi els esz p 0|.pt ds,a=>∃p cs,a=.ptr (some p)/\lds w0 lh p ds.length=some cs/\R6 ds cs|.fn f xs ys,a=>∃us vs,a=.fn (.func f) us vs/\SN xs us/\SN ys vs
def SN:List Bp->List ah->Prop
 |[],cs=>cs=[]|d::ds,cs=>∃x xs,cs=x::xs/\rd d x/\SN ds xs
def R6:List Bp->List ah->Prop
 |[],cs=>cs=[]|d::ds,cs=>∃x xs,cs=x::xs/\d.isC=true/\rd d x/\R6 ds xs
def Hi:List (List Bp)->Nat->Option hU->Nat->Prop
 |[],_,_,_=>True|e::es,esz,p,i=>(∃X1 cs,p=some X1/\lds w0 lh (X1.add (i*esz)) esz=some cs/\R6 e cs)/\Hi es esz p (i+1)
end
end
def plain:ah->Bool
 |.agg cs=>cs.all bC
 |.tup cs=>cs.all λ|.agg ds=>ds.all bC|a=>bC a
 |a=>bC a
theorem oY {m m':aJ} {a:ah} {v:Value} (hs:bC a=true) (h:CL m a v):CL m' a v:=by cases a<;>simp[bC]at hs<;>first|(simp[CL]at h ⊢;exact h)|cases hs
theorem i6 {m m':aJ}:∀ {az:List ah} {vs:List Value},az.all bC=true->aC m az vs->aC m' az vs
 |[],_,_,h=>by simp[aC]at h ⊢;exact h
 |a::az,_,hs,h=>by simp only[Ib,DD]at hs;simp only[aC]at h ⊢;obtain⟨u,us,rfl,N,Q⟩:=h;exact⟨u,us,rfl,oY hs.1 N,i6 hs.2 Q⟩
theorem ae6 {m m':aJ} {a:ah} {v:Value} (hs:(match a with|.agg ds=>ds.all bC|a=>bC a)=true) (h:CL m a v):CL m' a v:=by
 cases a with
 |agg cs=>simp[CL]at h ⊢;obtain⟨vs,rfl,h⟩:=h;exact⟨vs,rfl,i6 hs h⟩|_=>exact oY hs h
theorem R86 {m m':aJ}:∀ {az:List ah} {vs:List Value},(az.all λ|.agg ds=>ds.all bC|a=>bC a)=true->aC m az vs->aC m' az vs
 |[],_,_,h=>by simp[aC]at h ⊢;exact h
 |a::az,_,hs,h=>by simp only[Ib,DD]at hs;simp only[aC]at h ⊢;obtain⟨u,us,rfl,N,Q⟩:=h;exact⟨u,us,rfl,ae6 hs.1 N,R86 hs.2 Q⟩
theorem afb {m m':aJ} {a:ah} {v:Value} (hs:plain a=true) (h:CL m a v):CL m' a v:=by
 cases a with
 |agg cs=>simp[CL]at h ⊢;obtain⟨vs,rfl,h⟩:=h;exact⟨vs,rfl,i6 hs h⟩|tup cs=>simp[CL]at h ⊢;obtain⟨vs,rfl,h⟩:=h;exact⟨vs,rfl,R86 hs h⟩|_=>exact oY hs h
theorem rO {p:Nat->Prop} {a:ah} (hs:bC a=true):km p a:=by cases a<;>first|(simp only[km];done)|(simp only[bC]at hs;cases hs)
theorem oW {p:Nat->Prop}:∀ {az:List ah},az.all bC=true->jd p az
 |[],_=>by simp[jd]
 |a::az,hs=>by simp only[Ib,DD]at hs;simp only[jd];exact⟨rO hs.1,oW hs.2⟩
theorem abh {p:Nat->Prop}:∀ {az:List ah},(az.all λ|.agg ds=>ds.all bC|a=>bC a)=true->jd p az
 |[],_=>by simp[jd]
 |a::az,hs=>by
   simp only[Ib,DD]at hs;simp only[jd];refine⟨?_,abh hs.2⟩;cases a with
   |agg cs=>simp[km];exact oW hs.1|_=>exact rO hs.1
theorem yaM {p:Nat->Prop} {a:ah} (hs:plain a=true):km p a:=by
 cases a with
 |agg cs=>simp[km];exact oW hs|tup cs=>simp[km];exact abh hs|_=>exact rO hs
section
variable {B:dj} {m:aJ} {lh:List av} {w:World}
theorem jG {w:World} {a:Addr}:∀ (vs:List Value) (i:Nat),(∀ j v,vs[j]? = some v->w.cell? (a.add (i+j))=some v)->gf w a i vs.length=some (vs.map bL)
 |[],i,_=>rfl
 |v::vs,i,h=>by have h0:=h 0 v rfl;simp[M1]at h0;have ih:=jG vs (i+1) (λj u hu=>by have:=h (j+1) u (by simpa using hu);rw[← this];congr 2;omega);simp[MN,gf,h0,ih,Ja]
theorem wh (h:ba B m lh w) {p:hU} {X1:Option Addr} (hq:dR m (some p) X1) {n:Nat} {xs:List ah} (hx:lds B.w0 lh p n=some xs) :
 ∃a us,X1=some a/\lds w [] (.g a) n=some (us.map bL)/\aC m xs us:=by
 cases p with
 |l k off=>
   simp[lds]at hx;split at hx
   ·rename_i cs ty hk
    split at hx
    ·rename_i Y3
     cases hx;obtain⟨b,hb,rfl⟩:=hq
     let ⟨b',vs,Xw,Y2,hh,_⟩:=h.loc k cs ty hk
     rw[hb]at Xw;cases Xw;have hl:=cB Y2;have hr:=fj n (fV off Y2);have hn:((vs.toList.drop off).take n).length=n:=by simp at hl ⊢;omega
     refine⟨_,(vs.toList.drop off).take n,rfl,?_,hr⟩;have:=jG (w:=w) (a:=⟨b,off,none⟩) ((vs.toList.drop off).take n) 0 (λj v y=>by
      rw[lC];rw[Ji]at y;split at y
      ·rw[LU]at y;simp[World.cell?,hh];simpa using y
      ·cases y)
     rw[hn]at this;exact this
    ·cases hx
   ·cases hx
 |g a=>simp[dR]at hq;subst hq;obtain⟨vs,rfl,Q,h3⟩:=er n 0 xs hx;refine⟨a,vs,rfl,?_,cj m vs⟩;have:=jG (w:=w) (a:=a) vs 0 (λj v y=>h.cell_g (h3 j v y));rw[Q]at this;exact this
theorem ba.back (h:ba B m lh w) {m1:aJ} {lh1:List av} {w':World} (h':ba ⟨w,w,λ_=>False,[]⟩ m1 lh1 w'):ba B m lh w':=by
 have hold:∀b,b<w.heap.size->w'.heap[b]? = w.heap[b]? := λb hb=>h'.old b hb;have YD:w.heap.size<=w'.heap.size:=h'.size;refine⟨h'.os.trans h.os,h'.tape.trans h.tape,h'.output.trans h.output,Jc h.size YD,λb hb=>?_,Jc h.fsize YD,λb hb ho=>?_,λk cs ty hk=>?_,h.inj,h.dom,h.dead,λk b hb=>LI (h.rng k b hb) YD⟩
 ·rw[hold b (LI hb h.size)];exact h.old b hb
 ·rw[hold b (LI hb h.fsize)];exact h.kept b hb ho
 ·let ⟨b,vs,N,Q,h3,h4⟩:=h.loc k cs ty hk
  exact⟨b,vs,N,Q,by rw[hold b (h.rng k b N)];exact h3,h4⟩
end
end Go.Sx
namespace Go.Dx
open Go.Sx
structure Nu where
 m:Nat->Option (Option (Nat×Nat×Nat))
 z:List av
instance:CoeFun Nu λ_=>Nat->Option (Option (Nat×Nat×Nat)):=⟨Nu.m⟩
def tf (a b:List av):Prop:=∀(k:Nat) (az:List ah) (ty:TypeId),a[k]? = some (av.cells az ty)->b[k]? = some (av.cells az ty)
theorem lk (a:List av):tf a a:=λ_ _ _ h=>h
theorem GB (a:List av):tf [] a:=λ_ _ _ h=>by simp at h
theorem nQ {a b c:List av} (h:tf a b) (k:tf b c):tf a c:=λi az ty hx=>k i az ty (h i az ty hx)
def Nu.nil:Nu:=⟨λ_=>none,[]⟩
def Nu.sub (ν ν':Nu):Prop:=(∀k x,ν k=some x->ν' k=some x)/\tf ν.z ν'.z
theorem Nu.nil_sub (ν:Nu):Nu.nil.sub ν:=⟨λ_ _ h=>by(cases h),GB _⟩
theorem Nu.sub_refl (ν:Nu):ν.sub ν:=⟨λ_ _ h=>h,lk _⟩
theorem Nu.sub_trans {a b c:Nu} (h:a.sub b) (k:b.sub c):a.sub c:=⟨λi x hx=>k.1 i x (h.1 i x hx),nQ h.2 k.2⟩
def R4 (lh:List av):Option hU->Prop
 |some (.l k off)=>∃cs ty,lh[k]? = some (av.cells cs ty)/\off<=cs.length|_=>True
mutual
def vr (w0:World) (lh:List av) (ν:Nu):V->ah->Prop
 |.int k n,a=>a=.int k n|.bool b,a=>a=.bool b|.kb b,a=>a=.bool b|.str s,a=>a=.str s|.agg cs,a=>∃az,a=.agg az/\bp w0 lh ν cs az|.tup cs,a=>∃az,a=.tup az/\bp w0 lh ν cs az|.fn f xs ys,a=>∃us vs,a=.fn (.func f) us vs/\bp w0 lh ν xs us/\bp w0 lh ν ys vs|.sl n f,a=>∃p c esz,a=.slice p n c/\n<=c/\n<=9223372036854775807/\R4 lh p/\∀i,i<n->∃X1 az,p=some X1/\lds w0 lh (X1.add (i*esz)) esz=some az/\bp w0 lh Nu.nil (f i) az/\(f i).all V.fc=true|.sq n m f,a=>∃p c esz,a=.slice p n c/\(n<=c/\n<=m)/\n<=9223372036854775807/\R4 lh p/\∀i,i<n->∃X1 az,p=some X1/\lds w0 lh (X1.add (i*esz)) esz=some az/\bp w0 lh Nu.nil (f i) az/\(f i).all V.fc=true|.pd cs,a=>∃p az,a=.ptr (some p)/\UM lh (some p)/\lds w0 lh p cs.length=some az/\bp w0 lh Nu.nil cs az/\cs.all V.fc=true|.pl k off,a=>∃b c e,ν k=some (some (b,c,e))/\a=.ptr (some (.l b off))|.pe k i j,a=>∃b c e,ν k=some (some (b,c,e))/\a=.ptr (some (.l b (i*e+j)))|.ss k off n c,a=>∃b c' e,ν k=some (some (b,c',e))/\a=.slice (some (.l b off)) n c|.gs k n,a=>(ν k=some none/\n=0/\a=.slice none 0 0)∨∃b c e,ν k=some (some (b,c,e))/\a=.slice (some (.l b 0)) n c/\n<=c|.ns,a=>a=.slice none 0 0|.np,a=>a=.ptr none|.any,_=>True|.gd b v,a=>(b=true->vr w0 lh ν v a)/\(b=false->∃l,a=.tup l)|.yl l,a=>a=jh l|.go k off n,a=>(ν k=some none/\n=0/\off=0/\a=.slice none 0 0)∨∃b c e o,ν k=some (some (b,c,e))/\a=.slice (some (.l b o)) n (c-off)/\(off+n<=c/\o<=c*e)/\(0<n->o=off*e)
def bp (w0:World) (lh:List av) (ν:Nu):List V->List ah->Prop
 |[],az=>az=[]|v::vs,az=>∃x xs,az=x::xs/\vr w0 lh ν v x/\bp w0 lh ν vs xs
end
section lists
variable {α β:Type}
theorem bk:∀ (l:List α) (i:Nat),gk l i=l[i]?
 |[],_=>by simp[gk]
 |_::_,0=>by simp[gk]
 |_::l,i+1=>by simp[gk,bk l i]
theorem gY:∀ (l:List α) (i:Nat) (b:α),xW l i b=l.set i b
 |[],_,_=>rfl|_::_,0,_=>rfl|_::l,i+1,b=>by simp[xW,gY l i b]
theorem vY:∀ (l:List α) (b:α),Eh l b=l++[b]
 |[],_=>rfl|_::l,b=>by simp[Eh,vY l b]
theorem kL:∀ (l b:List α),v6 l b=l++b
 |[],_=>rfl|_::l,b=>by simp[v6,kL l b]
theorem bS:∀ (l:List α),bU l=l.length
 |[]=>rfl|_::l=>by simp[bU,bS l]
theorem ut:∀ {n:Nat} {l r:List α},qL n l=some r->n<=l.length/\r=l.drop n
 |0,l,r,h=>by simp[qL]at h;simp[h]
 |n+1,[],r,h=>by simp[qL]at h
 |n+1,_::l,r,h=>by
   simp[qL]at h
   let ⟨N,Q⟩:=ut h
   exact⟨by simp;exact N,by simpa using Q⟩
theorem vU:∀ {n:Nat} {l r:List α},vJ n l=some r->n<=l.length/\r=l.take n
 |0,l,r,h=>by simp[vJ]at h;simp[h]
 |n+1,[],r,h=>by simp[vJ]at h
 |n+1,a::l,r,h=>by
   simp[vJ]at h;split at h
   ·rename_i r' hr
    cases h
    let ⟨N,Q⟩:=vU hr
    exact⟨by simp;exact N,by simp[Q]⟩
   ·cases h
theorem qY {l r:List α} {off n:Nat} (h:C3 l off n=some r):off+n<=l.length/\r=(l.drop off).take n:=by
 unfold C3 at h;split at h
 ·rename_i r' hr;obtain⟨N,rfl⟩:=ut hr;obtain⟨h3,rfl⟩:=vU h;simp at h3;exact⟨I,rfl⟩
 ·cases h
end lists
section
variable {w0:World} {lh:List av} {ν ν':Nu}
mutual
theorem nt (hn:∀ k x,ν k=some x->ν' k=some x):∀ (v:V) (a:ah),vr w0 lh ν v a->vr w0 lh ν' v a
 |.int ..,a,h=>by simp[vr]at h ⊢;exact h
 |.bool ..,a,h=>by simp[vr]at h ⊢;exact h
 |.kb ..,a,h=>by simp[vr]at h ⊢;exact h
 |.str ..,a,h=>by simp[vr]at h ⊢;exact h
 |.agg cs,a,h=>by simp[vr]at h ⊢;let ⟨az,N,Q⟩:=h;exact⟨az,N,gP hn cs az Q⟩
 |.tup cs,a,h=>by simp[vr]at h ⊢;let ⟨az,N,Q⟩:=h;exact⟨az,N,gP hn cs az Q⟩
 |.fn f xs ys,a,h=>by simp[vr]at h ⊢;let ⟨us,vs,N,Q,h3⟩:=h;exact⟨us,vs,N,gP hn xs us Q,gP hn ys vs h3⟩
 |.sl n f,a,h=>by
   simp[vr]at h ⊢
   let ⟨p,c,esz,N,Q,h3,h4,h5⟩:=h
   exact⟨p,c,esz,N,Q,h3,h4,λi hi=>let ⟨X1,az,g1,g2,g3⟩:=h5 i hi;⟨X1,az,g1,g2,g3⟩⟩
 |.sq n m f,a,h=>by
   simp[vr]at h ⊢
   let ⟨p,c,esz,N,Q,h3,h4,h5⟩:=h
   exact⟨p,c,esz,N,Q,h3,h4,λi hi=>let ⟨X1,az,g1,g2,g3⟩:=h5 i hi;⟨X1,az,g1,g2,g3⟩⟩
 |.pd cs,a,h=>by simp[vr]at h ⊢;let ⟨p,az,N,Q,h3,h4⟩:=h;exact⟨p,az,N,Q,h3,h4⟩
 |.pl k off,a,h=>by simp only[vr]at h ⊢;let ⟨b,c,e,N,Q⟩:=h;exact⟨b,c,e,hn _ _ N,Q⟩
 |.pe k i j,a,h=>by simp[vr]at h ⊢;let ⟨b,c,e,N,Q⟩:=h;exact⟨b,c,e,hn _ _ N,Q⟩
 |.ss k off n c,a,h=>by simp only[vr]at h ⊢;let ⟨b,c',e,N,Q⟩:=h;exact⟨b,c',e,hn _ _ N,Q⟩
 |.gs k n,a,h=>by
   simp only[vr]at h ⊢;rcases h with ⟨N,Q⟩|⟨b,c,e,N,Q⟩
   ·exact .inl ⟨hn _ _ N,Q⟩
   ·exact .inr ⟨b,c,e,hn _ _ N,Q⟩
 |.ns,a,h=>by simp[vr]at h ⊢;exact h
 |.np,a,h=>by simp[vr]at h ⊢;exact h
 |.any,a,h=>by simp[vr]
 |.gd b v,a,h=>by simp[vr]at h ⊢;exact⟨λe=>nt hn v a (h.1 e),h.2⟩
 |.yl l,a,h=>by simp[vr]at h ⊢;exact h
 |.go k off n,a,h=>by
   simp only[vr]at h ⊢;rcases h with ⟨N,Q⟩|⟨b,c,e,o,N,Q⟩
   ·exact .inl ⟨hn _ _ N,Q⟩
   ·exact .inr ⟨b,c,e,o,hn _ _ N,Q⟩
theorem gP (hn:∀ k x,ν k=some x->ν' k=some x):∀ (vs:List V) (az:List ah),bp w0 lh ν vs az->bp w0 lh ν' vs az
 |[],az,h=>by simp[bp]at h ⊢;exact h
 |v::vs,az,h=>by simp[bp]at h ⊢;let ⟨x,xs,N,Q,h3⟩:=h;exact⟨x,xs,N,nt hn v x Q,gP hn vs xs h3⟩
end
theorem FV (hn:ν.sub ν') (v:V) (a:ah) (h:vr w0 lh ν v a):vr w0 lh ν' v a:=nt hn.1 v a h
theorem jV (hn:ν.sub ν') (v:List V) (a:List ah) (h:bp w0 lh ν v a):bp w0 lh ν' v a:=gP hn.1 v a h
theorem vt {lh lh':List av} (hz:tf lh lh') {p:hU} {n:Nat} {az:List ah} (h:lds w0 lh p n=some az):lds w0 lh' p n=some az:=by
 cases p with
 |g a=>exact h
 |l k off=>
   simp[lds]at h ⊢;cases hk:lh[k]? with
   |none=>rw[hk]at h;cases h
   |some o=>
     cases o with
     |dead=>rw[hk]at h;cases h|hid=>rw[hk]at h;cases h|cells cs ty=>rw[hz k cs ty hk];rw[hk]at h;exact h
theorem acH {lh lh':List av} (hz:tf lh lh') {p:Option hU} (h:UM lh p):UM lh' p:=by
 cases p with
 |none=>trivial
 |some p=>
   cases p with
   |g a=>trivial
   |l k off=>
     simp[UM]at h ⊢;cases hk:lh[k]? with
     |none=>rw[hk]at h;cases h
     |some o=>
       cases o with
       |dead=>rw[hk]at h;cases h|hid=>rw[hk]at h;cases h|cells cs ty=>rw[hz k cs ty hk];rfl
theorem KR {lh lh':List av} (hz:tf lh lh') {p:Option hU} (h:R4 lh p):R4 lh' p:=by
 cases p with
 |none=>trivial
 |some p=>
   cases p with
   |g a=>trivial|l k off=>let ⟨cs,ty,N,Q⟩:=h;exact⟨cs,ty,hz k cs ty N,Q⟩
theorem h13 {lh:List av} {p:hU} {n:Nat} {az:List ah} (h:lds w0 lh p n=some az):UM lh (some p):=by
 cases p with
 |g a=>trivial
 |l k off=>
   simp[lds]at h;simp[UM];cases hk:lh[k]? with
   |none=>rw[hk]at h;cases h
   |some o=>
     cases o with
     |dead=>rw[hk]at h;cases h|hid=>rw[hk]at h;cases h|cells cs ty=>rfl
mutual
theorem kJ {lh lh':List av} (hz:tf lh lh'):∀ {ν:Nu} (v:V) (a:ah),vr w0 lh ν v a->vr w0 lh' ν v a
 |_,.int ..,a,h=>by simp[vr]at h ⊢;exact h
 |_,.bool ..,a,h=>by simp[vr]at h ⊢;exact h
 |_,.kb ..,a,h=>by simp[vr]at h ⊢;exact h
 |_,.str ..,a,h=>by simp[vr]at h ⊢;exact h
 |_,.agg cs,a,h=>by simp[vr]at h ⊢;let ⟨az,N,Q⟩:=h;exact⟨az,N,j5 hz cs az Q⟩
 |_,.tup cs,a,h=>by simp[vr]at h ⊢;let ⟨az,N,Q⟩:=h;exact⟨az,N,j5 hz cs az Q⟩
 |_,.fn f xs ys,a,h=>by simp[vr]at h ⊢;let ⟨us,vs,N,Q,h3⟩:=h;exact⟨us,vs,N,j5 hz xs us Q,j5 hz ys vs h3⟩
 |_,.sl n f,a,h=>by
   simp only[vr]at h ⊢
   let ⟨p,c,esz,N,Q,h3,h4,h5⟩:=h
   exact⟨p,c,esz,N,Q,h3,KR hz h4,λi hi=>let ⟨X1,az,g1,g2,g3,g4⟩:=h5 i hi;⟨X1,az,g1,vt hz g2,j5 hz (f i) az g3,g4⟩⟩
 |_,.sq n m f,a,h=>by
   simp only[vr]at h ⊢
   let ⟨p,c,esz,N,Q,h3,h4,h5⟩:=h
   exact⟨p,c,esz,N,Q,h3,KR hz h4,λi hi=>let ⟨X1,az,g1,g2,g3,g4⟩:=h5 i hi;⟨X1,az,g1,vt hz g2,j5 hz (f i) az g3,g4⟩⟩
 |_,.pd cs,a,h=>by simp only[vr]at h ⊢;let ⟨p,az,N,Q,h3,h4,h5⟩:=h;exact⟨p,az,N,acH hz Q,vt hz h3,j5 hz cs az h4,h5⟩
 |_,.pl k off,a,h=>by simp[vr]at h ⊢;exact h
 |_,.pe k i j,a,h=>by simp[vr]at h ⊢;exact h
 |_,.ss k off n c,a,h=>by simp[vr]at h ⊢;exact h
 |_,.gs k n,a,h=>by simp[vr]at h ⊢;exact h
 |_,.ns,a,h=>by simp[vr]at h ⊢;exact h
 |_,.np,a,h=>by simp[vr]at h ⊢;exact h
 |_,.any,a,h=>by simp[vr]
 |_,.gd b v,a,h=>by simp[vr]at h ⊢;exact⟨λe=>kJ hz v a (h.1 e),h.2⟩
 |_,.yl l,a,h=>by simp[vr]at h ⊢;exact h
 |_,.go k off n,a,h=>by simp[vr]at h ⊢;exact h
theorem j5 {lh lh':List av} (hz:tf lh lh'):∀ {ν:Nu} (vs:List V) (az:List ah),bp w0 lh ν vs az->bp w0 lh' ν vs az
 |_,[],az,h=>by simp[bp]at h ⊢;exact h
 |_,v::vs,az,h=>by simp[bp]at h ⊢;let ⟨x,xs,N,Q,h3⟩:=h;exact⟨x,xs,N,kJ hz v x Q,j5 hz vs xs h3⟩
end
theorem Wt (hn:ν.sub ν') (v:V) (a:ah) (h:vr w0 ν.z ν v a):vr w0 ν'.z ν' v a:=FV hn v a (kJ hn.2 v a h)
theorem Ch (hn:ν.sub ν') (v:List V) (a:List ah) (h:bp w0 ν.z ν v a):bp w0 ν'.z ν' v a:=jV hn v a (j5 hn.2 v a h)
theorem bQ:∀ {vs:List V} {az:List ah},bp w0 lh ν vs az->az.length=vs.length
 |[],_,h=>by simp[bp]at h;subst h;rfl
 |_::_,_,h=>by simp[bp]at h;obtain⟨x,xs,rfl,_,h3⟩:=h;simp[bQ h3]
theorem my:∀ {vs:List V} {az:List ah} {i:Nat} {v:V},bp w0 lh ν vs az->vs[i]? = some v->∃ a,az[i]? = some a/\vr w0 lh ν v a
 |[],_,_,_,_,h=>by simp at h
 |_::_,_,0,_,hr,h=>by simp[bp]at hr;obtain⟨x,xs,rfl,Q,_⟩:=hr;simp at h;subst h;exact⟨x,rfl,Q⟩
 |_::_,_,i+1,_,hr,h=>by
   simp[bp]at hr;obtain⟨x,xs,rfl,_,h3⟩:=hr;simp at h
   let ⟨a,h4,h5⟩:=my h3 h
   exact⟨a,by simpa using h4,h5⟩
theorem gm:∀ {vs:List V} {az:List ah} (n:Nat),bp w0 lh ν vs az->bp w0 lh ν (vs.drop n) (az.drop n)
 |vs,az,0,h=>by simpa using h
 |[],az,n+1,h=>by simp[bp]at h;subst h;simp[bp]
 |_::_,az,n+1,h=>by simp[bp]at h;obtain⟨x,xs,rfl,_,h3⟩:=h;simpa using gm n h3
theorem gZ:∀ {vs:List V} {az:List ah} (n:Nat),bp w0 lh ν vs az->bp w0 lh ν (vs.take n) (az.take n)
 |vs,az,0,h=>by simp[bp]
 |[],az,n+1,h=>by simp[bp]at h;subst h;simp[bp]
 |_::_,az,n+1,h=>by simp[bp]at h;obtain⟨x,xs,rfl,Q,h3⟩:=h;simp only[List.take_succ_cons,bp];exact⟨_,_,rfl,Q,gZ n h3⟩
theorem kk:∀ {vs vs':List V} {az as':List ah},bp w0 lh ν vs az->bp w0 lh ν vs' as'->bp w0 lh ν (vs++vs') (az++as')
 |[],_,_,_,h,h'=>by simp[bp]at h;subst h;simpa using h'
 |_::_,_,_,_,h,h'=>by simp[bp]at h;obtain⟨x,xs,rfl,Q,h3⟩:=h;simp only[PH,bp];exact⟨_,_,rfl,Q,kk h3 h'⟩
theorem oe {α:Type}:∀ {cs:List α} {off:Nat} {xs r:List α},pK cs off xs=some r->off+xs.length<=cs.length/\r.length=cs.length
 |cs,0,[],r,h=>by simp[pK]at h;simp[h]
 |[],0,x::xs,r,h=>by simp[pK]at h
 |c::cs,0,x::xs,r,h=>by
   simp[pK]at h;split at h
   ·rename_i r' hr;cases h;have:=oe hr;simp at this ⊢;omega
   ·cases h
 |[],off+1,xs,r,h=>by simp[pK]at h
 |c::cs,off+1,xs,r,h=>by
   simp[pK]at h;split at h
   ·rename_i r' hr;cases h;have:=oe hr;simp at this ⊢;omega
   ·cases h
theorem xU (c:ah):∀ (xs cs:List ah) (off:Nat),wr (c::cs) (off+1) xs=c::wr cs off xs
 |[],_,_=>rfl|x::xs,cs,off=>by simp[wr,List.set_cons_succ];exact xU c xs _ _
theorem vO:∀ {cs:List V} {off:Nat} {xs:List V} {us:List ah} {az:List ah} {r:List V},bp w0 lh ν cs az->bp w0 lh ν xs us->pK cs off xs=some r->bp w0 lh ν r (wr az off us)
 |cs,0,[],us,az,r,h,hx,hw=>by simp[bp]at hx;subst hx;simp[pK]at hw;subst hw;exact h
 |[],0,x::xs,us,az,r,h,hx,hw=>by simp[pK]at hw
 |c::cs,0,x::xs,us,az,r,h,hx,hw=>by
   simp[bp]at hx h;obtain⟨u,us,rfl,N,Q⟩:=hx;obtain⟨a,az,rfl,h3,h4⟩:=h;simp[pK]at hw;split at hw
   ·rename_i r' hr;cases hw;simp[wr,List.set_cons_zero];rw[xU];simp only[bp];exact⟨_,_,rfl,N,vO h4 Q hr⟩
   ·cases hw
 |[],off+1,xs,us,az,r,h,hx,hw=>by simp[pK]at hw
 |c::cs,off+1,xs,us,az,r,h,hx,hw=>by
   simp[bp]at h;obtain⟨a,az,rfl,h3,h4⟩:=h;simp[pK]at hw;split at hw
   ·rename_i r' hr;cases hw;rw[xU];simp only[bp];exact⟨_,_,rfl,h3,vO h4 hx hr⟩
   ·cases hw
theorem Lo (a:ah):vr w0 lh ν (EU a) a:=by unfold EU;split<;>simp only[vr,bp];exact⟨_,_,rfl,rfl,rfl⟩
theorem oa:∀ l:List ah,bp w0 lh ν (l.map EU) l
 |[]=>by simp[bp]
 |a::l=>by simp only[Ja,bp];exact⟨_,_,rfl,Lo a,oa l⟩
theorem FN {v:V} {a:ah} (h:vr w0 lh ν v a) (N:v.one=true):a.one=true:=by
 cases v<;>simp only[vr]at h
 case gs=>rcases h with ⟨_,_,h⟩|⟨_,_,_,_,h,_⟩<;>(subst h;rfl)
 case go=>rcases h with ⟨_,_,_,h⟩|⟨_,_,_,_,_,h,_⟩<;>(subst h;rfl)
 all_goals first
  |(simp[V.one]at N;done)|(subst h;rfl)|(obtain⟨_,_,rfl,_⟩:=h;rfl)|(obtain⟨_,_,_,rfl,_⟩:=h;rfl)|(obtain⟨_,_,_,_,rfl⟩:=h;rfl)
theorem jP:∀ {vs:List V} {az:List ah},bp w0 lh ν vs az->vs.all V.one=true->az.all ah.one=true
 |[],_,h,_=>by simp[bp]at h;subst h;rfl
 |_::_,_,h,N=>by simp[bp]at h;obtain⟨x,xs,rfl,Q,h3⟩:=h;simp only[Ib,DD]at N ⊢;exact⟨FN Q N.1,jP h3 N.2⟩
theorem uZ {v:V} {a:ah} (h:vr w0 lh ν v a) (N:v.flat=true):a.flat=true/\bp w0 lh ν v.cells a.cells:=by
 by_cases y:∃cs,v=.agg cs
 ·obtain⟨cs,rfl⟩:=y;simp[vr]at h;obtain⟨az,rfl,Q⟩:=h;exact⟨jP Q N,Q⟩
 ·have Q:v.one=true:=by
   cases v<;>first|exact N|exact(y ⟨_,rfl⟩).elim
  have h3:=FN h Q;have h4:v.cells=[v]:=by cases v<;>first|rfl|exact(y ⟨_,rfl⟩).elim
  have h5:a.cells=[a]/\a.flat=true:=by cases a<;>first|exact⟨rfl,h3⟩|(simp[ah.one]at h3)
  refine⟨h5.2,?_⟩;rw[h4,h5.1];simp only[bp];exact⟨_,_,rfl,h,rfl⟩
structure gj (w0:World) (ν:Nu) (XE:Nat) (e:bV) (sl:List ah):Prop where
 len:sl.length=XE
 at':∀i,vr w0 ν.z ν (jc e i) (sl.getD i .any)
theorem gj.mono {XE:Nat} {e:bV} {sl:List ah} (h:gj w0 ν XE e sl) (hn:ν.sub ν'):gj w0 ν' XE e sl:=⟨h.len,λi=>Wt hn _ _ (h.at' i)⟩
theorem gj.arg {XE:Nat} {e:bV} {sl:List ah} (h:gj w0 ν XE e sl) (x:fM):vr w0 ν.z ν (dF e x) (arg sl x):=by
 cases x with
 |t i=>exact h.at' i|k a=>exact Lo a
theorem lr (d:Nat) (v:V) (e:bV) (i:Nat):jc ((d,v)::e) i=if i=d then v else jc e i:=by
 simp only[jc];by_cases h:i=d
 ·subst h;simp
 ·rw [Ck h]
  have:Nat.beq i d=false:=by
   cases hb:Nat.beq i d with
   |false=>rfl|true=>exact(h (G9 hb)).elim
  rw[this];rfl
theorem gj.set {XE:Nat} {e:bV} {sl:List ah} (h:gj w0 ν XE e sl) {d:Nat} (hd:d<XE) {v:V} {a:ah} (y:vr w0 ν.z ν v a):gj w0 ν XE ((d,v)::e) (sl.set d a):=by
 refine⟨by simpa using h.len,λi=>?_⟩;rw[lr];by_cases hi:i=d
 ·subst hi;have:=h.len;rw[DL rfl];simp[List.getD,show i<sl.length by omega];exact y
 ·rw[Ck hi];simp[List.getD,HM];rw[Ck (λe=>hi e.symm)];exact h.at' i
theorem gj.put {XE:Nat} {e:bV} {sl:List ah} (h:gj w0 ν XE e sl) (d:Option Nat) (hd:∀ i,d=some i->i<XE) {v:V} {a:ah} (y:vr w0 ν.z ν v a):gj w0 ν XE (ec e d v) (eH sl d a):=by
 cases d with
 |none=>exact h|some d=>exact h.set (hd d rfl) y
theorem gj.know {XE:Nat} {e:bV} {sl:List ah} (h:gj w0 ν XE e sl) {d:Nat} {v:V} (y:vr w0 ν.z ν v (sl.getD d .any)):gj w0 ν XE ((d,v)::e) sl:=by
 refine⟨h.len,λi=>?_⟩;rw[lr];split
 ·rename_i hi;subst hi;exact y
 ·exact h.at' i
theorem gj.args {XE:Nat} {e:bV} {sl:List ah} (h:gj w0 ν XE e sl):∀ xs:List fM,bp w0 ν.z ν (xs.map (dF e)) (xs.map (Sx.arg sl))
 |[]=>by simp[bp]
 |x::xs=>by simp only[Ja,bp];exact⟨_,_,rfl,h.arg x,h.args xs⟩
end
abbrev eZ:=Nat×Nat->BB->bV->List AX->Option Ex->(Ex->bV->List AX->Option Ex->Prop)->Prop
def bM {α:Type} (LP:eZ):Bj α->(α->Prop)->Prop
 |.ret a,X4=>X4 a|.br b x At,X4=>(b=true->bM LP x X4)/\(b=false->bM LP At X4)|.ob b x,X4=>b=true/\bM LP x X4|.obi c d x,X4=>(c=true->d=true)/\bM LP x X4|.obp p x,X4=>p/\bM LP x X4|.obq a b x,X4=>a=b/\bM LP x X4|.fail _,_=>False|.loop fr body e h g k,X4=>LP fr body e h g λex e h g=>bM LP (k ex e h g) X4
 |.all f,X4=>∀l,bM LP (f l) X4|.und x At,X4=>bM LP x X4/\bM LP At X4|.asm p x,X4=>p->bM LP x X4
def bg (h:List AX) (k:Nat):Prop:=eG h k=true
def Ce (w0:World) (ν:Nu) (nV nS:Nat) (lh:List av) (k:Nat):AX->Prop
 |.cells cs ty=>∃b c e az,ν k=some (some (b,c,e))/\lh[b]? = some (.cells az ty)/\bp w0 ν.z ν cs az|.gl esz n f ty=>(ν k=some none/\n=0)∨∃b c az,ν k=some (some (b,c,esz))/\lh[b]? = some (.cells az ty)/\az.length=c*esz/\(n<=c/\n<=9223372036854775807)/\∀i,i<n->lY esz (f i)=true/\bp w0 ν.z ν (f i) ((az.drop (i*esz)).take esz)|.dead=>ν k=none/\nV<=k/\lh[nS+(k-nV)]? = some .dead|.hid=>True
structure HR (w0:World) (ν:Nu) (nV nS:Nat) (h:List AX) (lh:List av):Prop where
 blk:∀k o,h[k]? = some o->Ce w0 ν nV nS lh k o
 inj:∀k k' x x',bg h k->bg h k'->ν k=some (some x)->ν k'=some (some x')->x.1=x'.1->k=k'
 dom:∀k,h.length<=k->ν k=none
 rng:∀k x,ν k=some (some x)->x.1<lh.length
 zl:tf ν.z lh
 zn:∀k x,bg h k->ν k=some (some x)->isCells ν.z[x.1]? = false
section
variable {w0:World} {ν ν':Nu} {nV nS:Nat} {h h':List AX} {lh lh':List av} {α:Type} {LP:eZ} {X4:α->Prop}
theorem fT {k:Nat} (hk:bg h k):(∃ cs ty,h[k]? = some (.cells cs ty))∨∃ e n f ty,h[k]? = some (.gl e n f ty):=by
 unfold bg eG at hk;rw[bk]at hk;split at hk
 ·rename_i cs ty he;exact .inl ⟨cs,ty,he⟩
 ·rename_i e n f ty he;exact .inr ⟨e,n,f,ty,he⟩
 ·cases hk
theorem d8 {k:Nat} {cs:List V} {ty:TypeId} (hk:h[k]? = some (.cells cs ty)):bg h k:=by unfold bg eG;rw[bk,hk]
theorem gC {k e n:Nat} {f:bl} {ty:TypeId} (hk:h[k]? = some (.gl e n f ty)):bg h k:=by unfold bg eG;rw[bk,hk]
theorem dO {k:Nat} {o:AX} (hn:ν.sub ν') (hd:o ≠ .dead) (hl:∀ b az ty,lh[b]? = some (.cells az ty)->(∃ c e,ν k=some (some (b,c,e)))->lh'[b]? = some (.cells az ty)) (hb:Ce w0 ν nV nS lh k o):Ce w0 ν' nV nS lh' k o:=by
 cases o with
 |cells cs ty=>
   let ⟨b,c,e,az,N,Q,h3⟩:=hb
   exact⟨b,c,e,az,hn.1 _ _ N,hl _ _ _ Q ⟨c,e,N⟩,Ch hn _ _ h3⟩
 |gl esz n f ty=>
   rcases hb with ⟨N,Q⟩|⟨b,c,az,N,Q,h3,h4,h5⟩
   ·exact .inl ⟨hn.1 _ _ N,Q⟩
   ·exact .inr ⟨b,c,az,hn.1 _ _ N,hl _ _ _ Q ⟨c,esz,N⟩,h3,h4,λi hi=>⟨(h5 i hi).1,Ch hn _ _ (h5 i hi).2⟩⟩
 |dead=>exact(hd rfl).elim|hid=>trivial
def wD (ν:Nu) (p:Nat) (x:Option (Nat×Nat×Nat)):Nu:=⟨λk=>if k=p then some x else ν k,ν.z⟩
theorem fS (ν:Nu) (p:Nat) (x:Option (Nat×Nat×Nat)) (k:Nat):wD ν p x k=if k=p then some x else ν k:=rfl
theorem jF {p:Nat} {x:Option (Nat×Nat×Nat)} (hp:ν p=none):ν.sub (wD ν p x):=⟨λk At hk=>by
 rw[fS];have:k≠p:=λe=>by subst e;rw[hp]at hk;cases hk
 rw[Ck this];exact hk,lk _⟩
theorem fU (ν:Nu) (p:Nat) (x:Option (Nat×Nat×Nat)):wD ν p x p=some x:=by rw[fS,DL rfl]
theorem ls {o:Option av} (h:isCells o=false) (az:List ah) (ty:TypeId):o≠some (.cells az ty):=λe=>by subst e;cases h
theorem Uh {z lh:List av} (h:tf z lh) {b:Nat} (hb:isCells lh[b]? = false):isCells z[b]? = false:=by
 cases hz:z[b]? with
 |none=>rfl
 |some o=>
   cases o with
   |dead=>rfl|hid=>rfl|cells az ty=>rw[h b az ty hz]at hb;cases hb
theorem HR.put (hh:HR w0 ν nV nS h lh) {p b c e:Nat} {o:AX} {az:List ah} {ty:TypeId} (hp:ν p=none) (Yl:p<h'.length)
 (ho:h'[p]? = some o) (hoth:∀k,k ≠ p->h'[k]? = h[k]?) (q5:lh'[b]? = some (.cells az ty)) (sb:∀j,j ≠ b->lh'[j]? = lh[j]?) (hfree:isCells lh[b]? = false)
 (hlen:lh.length<=lh'.length) (hdead:∀k,h[k]? = some .dead->k≠p->nS+(k-nV)≠b) (qN:o≠.dead)
 (vq:Ce w0 (wD ν p (some (b,c,e))) nV nS lh' p o):HR w0 (wD ν p (some (b,c,e))) nV nS h' lh'/\ν.sub (wD ν p (some (b,c,e))):=by
 have hs:=jF (x:=some (b,c,e)) hp;have hlive:∀k,k≠p->bg h' k->bg h k:=λk hk hl=>by unfold bg eG at *;rw[bk]at *;rw[hoth k hk]at hl;exact hl
 have hcell:∀ k x,bg h k->ν k=some (some x)->x.1≠b:=λk x hl hx e=>by
  subst e;rcases fT hl with ⟨cs,t,hk⟩|⟨_,_,_,_,hk⟩
  ·let ⟨b',c',e',as',N,Q,_⟩:=hh.blk k _ hk
   rw[hx]at N;cases N;rw[Q]at hfree;cases hfree
  ·rcases hh.blk k _ hk with ⟨N,_⟩|⟨b',c',as',N,Q,_⟩
   ·rw[hx]at N;cases N
   ·rw[hx]at N;cases N;rw[Q]at hfree;cases hfree
 have uC:=Uh hh.zl hfree;refine⟨⟨λk o' hk=>?_,λk k' x x' N Q h3 h4 h5=>?_,λk hk=>?_,λk x hk=>?_,λj as' ty' hj=>?_,λk x hk hx=>?_⟩,hs⟩
 ·by_cases e1:k=p
  ·subst e1;rw[ho]at hk;cases hk;exact vq
  ·rw [hoth k e1]at hk
   by_cases hd:o'=.dead
   ·subst hd
    let ⟨g1,g2,g3⟩:=hh.blk k _ hk
    exact⟨by rw[fS,Ck e1];exact g1,g2,by rw[sb _ (hdead k hk e1)];exact g3⟩
   ·refine dO hs hd (λb' as' ty' g1 _=>?_) (hh.blk k _ hk);rw[sb b' (λe2=>by subst e2;rw[g1]at hfree;cases hfree)];exact g1
 ·rw [fS]at h3 h4
  by_cases e1:k=p<;>by_cases e2:k'=p
  ·rw[e1,e2]
  ·rw[DL e1]at h3;rw[Ck e2]at h4;cases h3;exact absurd h5.symm (hcell k' x' (hlive k' e2 Q) h4)
  ·rw[Ck e1]at h3;rw[DL e2]at h4;cases h4;exact absurd h5 (hcell k x (hlive k e1 N) h3)
  ·rw[Ck e1]at h3;rw[Ck e2]at h4;exact hh.inj k k' x x' (hlive k e1 N) (hlive k' e2 Q) h3 h4 h5
 ·have e1:k≠p:=λe1=>by subst e1;omega
  rw[fS,Ck e1];apply hh.dom;have:=hoth k e1;rw[IP hk]at this;exact List.getElem?_eq_none_iff.1 this.symm
 ·rw[fS]at hk
  split at hk
  ·cases hk;exact(List.getElem?_eq_some_iff.1 q5).1
  ·exact LI (hh.rng k x hk) hlen
 ·have ZJ:ν.z[j]? = some (.cells as' ty'):=hj;rw[sb j λe=>by rw[e]at ZJ;exact ls uC _ _ ZJ];exact hh.zl j as' ty' ZJ
 ·rw[fS]at hx
  by_cases e1:k=p
  ·rw[DL e1]at hx;cases hx;exact uC
  ·rw[Ck e1]at hx;exact hh.zn k x (hlive k e1 hk) hx
def QQ (nV nS:Nat) (pl plA:Option Nat):Prop:=(pl=none/\plA=none)∨∃p,pl=some p/\plA=some (nS+(p-nV))
theorem BC (hh:HR w0 ν nV nS h lh) {pl plA:Option Nat} (hp:QQ nV nS pl plA) {o:AX} {az:List ah} {ty:TypeId} {c e:Nat} {K:Nat->List AX->Bj α} {KA:Nat->List av->Prop} (qN:o≠.dead)
 (hb:∀p b lh',lh'[b]? = some (.cells az ty)->ν p=none->Ce w0 (wD ν p (some (b,c,e))) nV nS lh' p o)
 (hs:bM LP (fR pl h o K) X4) (hK:∀p b h' lh',((pl=none/\plA=none)∨(pl=some p/\plA=some b/\h'=h.set p o/\lh'=lh.set b (.cells az ty)/\p<h.length/\b<lh.length))->ν p=none->HR w0 (wD ν p (some (b,c,e))) nV nS h' lh'->bM LP (K p h') X4->KA b lh'):place plA lh (.cells az ty) KA:=by
 rcases hp with ⟨rfl,rfl⟩|⟨p,rfl,rfl⟩
 ·simp [fR]at hs
  rw[bS,vY]at hs;have hp:=hh.dom h.length (Dm _)
  let ⟨N,_⟩:=hh.put (h':=h++[o]) (lh':=lh++[.cells az ty]) (p:=h.length) (b:=lh.length) (c:=c) (e:=e) (o:=o) (az:=az) (ty:=ty) hp aD aD
   (fun k hk=>by
     rw[JS];split
     ·rfl
     ·rw[IP (by simp;omega),IP I])
   aD
   (fun k hk=>by
     rw[JS];split
     ·rfl
     ·rw[IP (by simp;omega),IP I])
   (by simp[isCells]) aD
   (λk hk _=>by let ⟨_,_,g3⟩:=hh.blk k _ hk;have:=(List.getElem?_eq_some_iff.1 g3).1;omega)
   qN (hb _ _ _ aD hp)
  exact hK _ _ _ _ (.inl ⟨rfl,rfl⟩) hp N hs
 ·simp [fR,bk]at hs
  split at hs
  ·rename_i hd
   rw[gY]at hs
   let ⟨g1,g2,g3⟩:=hh.blk p _ hd
   refine⟨g3,?_⟩;have XD:=(List.getElem?_eq_some_iff.1 hd).1;have hlt':=(List.getElem?_eq_some_iff.1 g3).1
   let ⟨N,_⟩:=hh.put (h':=h.set p o) (lh':=lh.set (nS+(p-nV)) (.cells az ty)) (p:=p) (b:=nS+(p-nV)) (c:=c) (e:=e) (o:=o) (az:=az) (ty:=ty) g1 (by simpa using XD) (by simp[XD])
    (λk hk=>by simp[hk.symm]) (by simp[hlt']) (λk hk=>by simp[hk.symm]) (by rw[g3];rfl) aD
    (λk hk Yf e1=>by let ⟨_,k2,_⟩:=hh.blk k _ hk;omega)
    qN (hb _ _ _ (by simp[hlt']) g1)
   exact hK _ _ _ _ (.inr ⟨rfl,rfl,rfl,rfl,XD,hlt'⟩) g1 N hs
  ·exact hs.elim
theorem HR.set (hh:HR w0 ν nV nS h lh) {k b c e:Nat} {o:AX} {az:List ah} {ty:TypeId} (hk:bg h k) (hν:ν k=some (some (b,c,e))) (hc:isCells lh[b]? = true) (sb:eG [o] 0=true)
 (vq:Ce w0 ν nV nS (lh.set b (.cells az ty)) k o):HR w0 ν nV nS (h.set k o) (lh.set b (.cells az ty)):=by
 have fm:k<h.length:=by rcases fT hk with ⟨_,_,g⟩|⟨_,_,_,_,g⟩<;>exact(List.getElem?_eq_some_iff.1 g).1
 have hlive:∀ j,bg (h.set k o) j->bg h j:=λj hj=>by
  by_cases e1:j=k
  ·subst e1;exact hk
  ·unfold bg eG at *;rw[bk]at *;rw[HM,Ck (Ne.symm e1)]at hj;exact hj
 refine⟨λj o' hj=>?_,λj j' x x' N Q=>hh.inj j j' x x' (hlive j N) (hlive j' Q),λj hj=>hh.dom j (by simpa using hj),λj x hx=>by simpa using hh.rng j x hx,λj as' ty' hj=>?_,λj x hj hx=>hh.zn j x (hlive j hj) hx⟩
 case refine_2=>
  rw[HM,Ck λe2=>?_]
  ·exact hh.zl j as' ty' hj
  ·subst e2;exact ls (hh.zn k _ hk hν) _ _ hj
 by_cases e1:j=k
 ·subst e1;rw[HM,DL rfl,DL fm]at hj;cases hj;exact vq
 ·rw [HM,Ck (Ne.symm e1)]at hj
  by_cases hd:o'=.dead
  ·subst hd
   let ⟨g1,g2,g3⟩:=hh.blk j _ hj
   refine⟨g1,g2,?_⟩;rw[HM,Ck (λe2=>by rw[← e2]at g3;rw[g3]at hc;cases hc)];exact g3
  ·by_cases hl:o'=.hid
   ·subst hl;trivial
   ·refine dO (Nu.sub_refl ν) hd (λb' as' ty' g1 g2=>?_) (hh.blk j _ hj)
    rw[HM,Ck]
    ·exact g1
    ·intro e2
     subst e2
     let ⟨c',e',g3⟩:=g2
     have bz:bg h j:=by unfold bg eG;rw[bk,hj];cases o'<;>first|rfl|exact(hd rfl).elim|exact(hl rfl).elim
     exact e1 (hh.inj j k _ _ bz hk g3 hν rfl)
theorem HR.hide1 (hh:HR w0 ν nV nS h lh) (k:Nat):HR w0 ν nV nS (h.set k .hid) lh:=by
 have hlive:∀ j,bg (h.set k .hid) j->bg h j:=λj hj=>by
  by_cases e1:k=j
  ·subst e1;exfalso;rcases fT hj with ⟨_,_,g⟩|⟨_,_,_,_,g⟩<;>(rw[HM,DL rfl]at g;split at g<;>cases g)
  ·unfold bg eG at *;rw[bk]at *
   rw[HM,Ck e1]at hj;exact hj
 refine⟨λj o hj=>?_,λj j' x x' N Q=>hh.inj j j' x x' (hlive j N) (hlive j' Q),λj hj=>hh.dom j (by simpa using hj),hh.rng,hh.zl,λj x hj hx=>hh.zn j x (hlive j hj) hx⟩;rw[HM]at hj;split at hj
 ·split at hj
  ·cases hj;trivial
  ·cases hj
 ·exact hh.blk j o hj
end
section
variable {w0:World} {ν ν':Nu} {nV nS XE:Nat} {h h':List AX} {lh lh':List av} {α:Type} {LP:eZ} {X4:α->Prop} {e:bV} {sl:List ah} {ctx:Bool}
theorem yj (a:Addr) (i j:Nat):(a.add i).add j=a.add (i+j):=by
 unfold Addr.add;by_cases hi:i=0
 ·subst hi;simp
 ·by_cases hj:j=0
  ·subst hj;simp
  ·have:¬ (i+j=0):=by omega
   simp[hi,hj,this,N1]
theorem adW (p:hU) (i j:Nat):(p.add i).add j=p.add (i+j):=by
 cases p with
 |l k off=>simp[hU.add,N1]|g a=>simp[hU.add,yj]
theorem aa6 {a:Addr} {n i m:Nat} {az:List ah} (hg:gf w0 a 0 n=some az) (Y3:i+m<=n):gf w0 (a.add i) 0 m=some ((az.drop i).take m):=by
 obtain⟨vs,rfl,hl,hc⟩:=er n 0 az hg;have:=jG (w:=w0) (a:=a.add i) ((vs.drop i).take m) 0 (λj v y=>by
  rw[Ji]at y;split at y
  ·rw[LU]at y;rw[yj];have:=hc (i+j) v y;simpa using this
  ·cases y)
 rw[show((vs.drop i).take m).length=m by simp;omega]at this;rw[this];simp
theorem ER {z:List av} {p:hU} {n i m:Nat} {az:List ah} (hl:lds w0 z p n=some az) (Y3:i+m<=n) (hz:tf z lh):lds w0 lh (p.add i) m=some ((az.drop i).take m):=by
 cases p with
 |g a=>exact aa6 hl Y3
 |l k off=>
   have Q:=vt hz hl;simp[lds,hU.add]at Q ⊢;split at Q
   ·rename_i cs ty hk
    split at Q
    ·rename_i hlen;cases Q;rw[DL I,P9,Ma,Mi,PO I]
    ·cases Q
   ·cases Q
theorem qA {p:hU} {n:Nat} {az:List ah} (hl:lds w0 lh p n=some az):az.length=n:=by
 cases p with
 |l k off=>
   simp[lds]at hl;split at hl
   ·split at hl
    ·cases hl;simp;omega
    ·cases hl
   ·cases hl
 |g a=>obtain⟨vs,rfl,Q,_⟩:=er n 0 az hl;simpa using Q
theorem aey {z:List av} {p:hU} {n:Nat} {az:List ah} {x:ah} (hl:lds w0 z p n=some az) (hx:az[0]? = some x) (hz:tf z lh):ld w0 lh p=some x:=by
 cases p with
 |g a=>
   obtain⟨vs,rfl,Q,h3⟩:=er n 0 az hl;rw[List.getElem?_map]at hx;cases y:vs[0]? with
   |none=>rw[y]at hx;cases hx
   |some v=>rw[y]at hx;cases hx;have:=h3 0 v y;simp[Addr.add]at this;simp[ld,this]
 |l k off=>
   have Q:=vt hz hl;simp[lds]at Q;split at Q
   ·rename_i cs ty hk
    split at Q
    ·cases Q
     simp[ld,hk];rw[Ji]at hx;split at hx
     ·rw[LU]at hx;exact hx
     ·cases hx
    ·cases Q
   ·cases Q
theorem Cf {v:V} {a:ah} {K:V->Bj α} (hc:ctx=true) (y:vr w0 lh ν v a) (hs:bM LP (ig ctx v K) X4):∃ u,vr w0 lh ν u a/\bM LP (K u) X4:=by
 unfold ig at hs;split at hs
 ·rename_i b u;simp[bM]at hs;simp[vr]at y;subst hc;exact⟨u,y.1 (hs.1 rfl),hs.2⟩
 ·exact⟨_,y,hs⟩
theorem Bl {v:V} {a:ah} {K:V->Bj α} (hc:ctx=true) (y:vr w0 lh ν v a) (hs:bM LP (ig ctx v K) X4):∃ u,vr w0 lh ν u a/\bM LP (K u) X4/\∀ h l,jt h v=some l->u=v:=by
 unfold ig at hs;split at hs
 ·rename_i b u;simp[bM]at hs;simp[vr]at y;subst hc;exact⟨u,y.1 (hs.1 rfl),hs.2,λh l hn=>by simp[jt]at hn⟩
 ·exact⟨_,y,hs,λ_ _ _=>rfl⟩
theorem bJ {x:fM} {K:V->Bj α} (XR:gj w0 ν XE e sl) (hc:ctx=true) (hs:bM LP (ig ctx (dF e x) K) X4):∃u,vr w0 ν.z ν u (arg sl x)/\bM LP (K u) X4:=Cf hc (XR.arg x) hs
theorem kF (XR:gj w0 ν XE e sl) (hc:ctx=true):∀ {xs:List fM} {K:List V->Bj α},bM LP (tc ctx e xs K) X4->∃ us,bp w0 ν.z ν us (xs.map (arg sl))/\bM LP (K us) X4
 |[],K,hs=>⟨[],by simp[bp],hs⟩
 |x::xs,K,hs=>by
   simp[tc]at hs
   let ⟨u,N,Q⟩:=bJ XR hc hs
   let ⟨us,h3,h4⟩:=kF XR hc Q
   exact⟨u::us,by simp only[Ja,bp];exact⟨_,_,rfl,N,h3⟩,h4⟩
def UJ (w0:World) (ν:Nu):Option V->Option ah->Prop
 |none,a=>a=none|some v,a=>∃x,a=some x/\vr w0 ν.z ν v x
theorem kz (XR:gj w0 ν XE e sl) (hc:ctx=true) {x:Option fM} {K:Option V->Bj α} (hs:bM LP (s8 ctx e x K) X4):∃ u,UJ w0 ν u (x.map (arg sl))/\bM LP (K u) X4:=by
 cases x with
 |none=>exact⟨none,rfl,hs⟩
 |some x=>
   simp[s8]at hs
   let ⟨u,N,Q⟩:=bJ XR hc hs
   exact⟨some u,⟨_,rfl,N⟩,Q⟩
theorem fH {p:Prop} [Decidable p] {x:Bj α} (hc:ctx=true) (hs:bM LP (wq ctx p x) X4):p/\bM LP x X4:=by simp[wq,bM]at hs;subst hc;exact⟨by simpa using hs.1 rfl,hs.2⟩
theorem ej {x:Option V} {xa:Option ah} {At d:Nat} {K:Nat->Bj α} {KA:Nat->Prop} (hc:ctx=true) (hx:UJ w0 ν x xa) (hs:bM LP (lT ctx x At d K) X4) (hK:∀ n,(x=none->n=d)->(x≠none->n<=At)->bM LP (K n) X4->KA n):bnd xa At d KA:=by
 cases x with
 |none=>simp[UJ]at hx;subst hx;exact hK d (λ_=>rfl) (λh=>(h rfl).elim) hs
 |some v=>
   simp[UJ]at hx;obtain⟨a,rfl,y⟩:=hx;cases v<;>simp[lT]at hs<;>try exact hs.elim
   simp[vr]at y;subst y
   let ⟨⟨N,Q⟩,h3⟩:=fH hc hs
   exact⟨N,Q,hK _ (λh=>by cases h) (λ_=>by omega) h3⟩
theorem rY {x:Option V} {xa:Option ah} {At y' d:Nat} {KA:Nat->Prop} (hy:At<=y') (hb:bnd xa At d KA):bnd xa y' d KA:=by
 unfold bnd at *
 split at hb
 ·exact hb
 ·exact⟨hb.1,I,hb.2.2⟩
 ·exact hb.elim
theorem r7 (XR:gj w0 ν XE e sl) (hc:ctx=true):∀ {ps:List (Nat×Nat×fM)} {z:List V} {za:List ah} {K:List V->Bj α} {KA:List ah->Prop},bp w0 ν.z ν z za->bM LP (pp ctx e ps z K) X4 ->
 (∀cs az,bp w0 ν.z ν cs az->bM LP (K cs) X4->KA az)->parts sl ps za KA
 |[],z,za,K,KA,hz,hs,hK=>hK z za hz hs
 |(off,n,x)::ps,z,za,K,KA,hz,hs,hK=>by
   simp[pp]at hs
   let ⟨v,N,Q⟩:=bJ XR hc hs
   cases hf:(v.flat&&Nat.beq (bU v.cells) n) with
   |false=>rw[hf]at Q;exact Q.elim
   |true=>
     rw[hf]at Q;simp[cond_true]at Q;simp only[DD]at hf
     let ⟨g1,g2⟩:=uZ N hf.1
     have g3:=G9 hf.2;rw[bS]at g3;split at Q
     ·rename_i hval0 hz';have hl:=oe hz';have:=bQ g2;have j0:=bQ hz;exact⟨g1,I,I,r7 XR hc (vO hz g2 hz') Q hK⟩
     ·exact Q.elim
def rC (w0:World) (Uc:FuncId->bT) (LP:eZ) (md:Bool) (cf:CF α):Prop:=∀ (f:FuncId) (vs:List V) (h:List AX) (K:V->List AX->Bj α) (X4:α->Prop) (ν:Nu) (nV nS:Nat) (args:List ah) (lh:List av) (KA:ah->List av->Prop),
 bp w0 ν.z ν vs args->HR w0 ν nV nS h lh->bM LP (cf f vs h K) X4->(∀v h' ν' a lh',(md=true->ν'=ν/\h'=h/\lh'=lh)->ν.sub ν'->HR w0 ν' nV nS h' lh'->vr w0 ν'.z ν' v a->bM LP (K v h') X4->KA a lh')->Uc f w0 args lh KA
structure wK (ν ν':Nu) (wn:List Nat) (pl plA:Option Nat) (h h':List AX) (lh lh':List av):Prop where
 len:lh'.length=lh.length
 chg:∀j,plA ≠ some j->(∀k x,k ∈ wn->ν k=some (some x)->x.1 ≠ j)->lh'[j]? = lh[j]?
 nw:∀k x,ν' k=some x->ν k=some x∨(pl=some k/\∀At,x=some At->(plA=some At.1∨∃k0 z,k0∈wn/\ν k0=some (some z)/\z.1=At.1))
 hlen:h'.length=h.length
 liv:∀k,bg h' k->bg h k∨pl=some k
 zz:ν'.z=ν.z
theorem wK.refl (ν:Nu) (wn:List Nat) (pl plA:Option Nat) (h:List AX) (lh:List av):wK ν ν wn pl plA h h lh lh:=⟨rfl,λ_ _ _=>rfl,λ_ _ h=>.inl h,rfl,λ_ h=>.inl h,rfl⟩
theorem CX (hh:HR w0 ν nV nS h lh) {v u:V} {a:ah} (y:vr w0 ν.z ν v a) (hl:QJ h v=some u) (aa:∀ k i j,v=.pe k i j->∀ e n f ty,h[k]? = some (.gl e n f ty)->i<n):∃ p x,a=.ptr (some p)/\ld w0 lh p=some x/\vr w0 ν.z ν u x:=by
 unfold QJ at hl;split at hl
 ·rename_i k off
  rw[bk]at hl;split at hl
  ·rename_i cs ty hk
   rw[bk]at hl
   let ⟨b,c,e,az,N,Q,h3⟩:=hh.blk k _ hk
   simp only[vr]at y;obtain⟨b',c',e',h4,rfl⟩:=y;rw[N]at h4;obtain⟨rfl,rfl,rfl⟩:_=b'/\_=c'/\_=e':=by simpa using h4
   let ⟨x,h5,h6⟩:=my h3 hl
   exact⟨_,x,rfl,by simp[ld,Q];exact h5,h6⟩
  ·cases hl
 ·rename_i k i j
  rw[bk]at hl;split at hl
  ·rename_i e n f ty hk
   rw[bk]at hl;have hi:=aa k i j rfl _ _ _ _ hk;simp[vr]at y;obtain⟨b',c',e',h4,rfl⟩:=y;rcases hh.blk k _ hk with ⟨N,Q⟩|⟨b,c,az,N,Q,h3,hn,h5⟩
   ·omega
   ·rw [N]at h4
    obtain⟨rfl,rfl,rfl⟩:_=b'/\_=c'/\_=e':=by simpa using h4
    let ⟨x,h6,h7⟩:=my (h5 i hi).2 hl
    refine⟨_,x,rfl,?_,h7⟩;rw[Ji]at h6;split at h6
    ·rw[LU]at h6;simp[ld,Q];exact h6
    ·cases h6
  ·cases hl
 ·rename_i cs
  rw[bk]at hl;simp only[vr]at y;obtain⟨p,az,rfl,_,Q,h3,_⟩:=y
  let ⟨x,h4,h5⟩:=my h3 hl
  exact⟨p,x,rfl,aey Q h4 hh.zl,FV (Nu.nil_sub ν) _ _ h5⟩
 ·cases hl
theorem Gy (hh:HR w0 ν nV nS h lh) {v:V} {m:Nat} {us:List V} {a:ah} (y:vr w0 ν.z ν v a) (hl:QO h m v=some us) (aa:∀ k i j,v=.pe k i j->∀ e n f ty,h[k]? = some (.gl e n f ty)->i<n):∃ p xs,a=.ptr (some p)/\lds w0 lh p m=some xs/\bp w0 ν.z ν us xs:=by
 unfold QO at hl;split at hl
 ·rename_i k off
  rw[bk]at hl;split at hl
  ·rename_i cs ty hk
   obtain⟨g1,rfl⟩:=qY hl;obtain⟨b,c,e,az,N,Q,h3⟩:=hh.blk k _ hk;simp only[vr]at y;obtain⟨b',c',e',h4,rfl⟩:=y;rw[N]at h4;obtain⟨rfl,rfl,rfl⟩:_=b'/\_=c'/\_=e':=by simpa using h4
   refine⟨_,_,rfl,?_,gZ m (gm off h3)⟩;simp only[lds,Q];rw[DL (by have:=bQ h3;omega)]
  ·cases hl
 ·rename_i k i j
  rw[bk]at hl;split at hl
  ·rename_i e n f ty hk
   obtain⟨g1,rfl⟩:=qY hl;have hi:=aa k i j rfl _ _ _ _ hk;simp[vr]at y;obtain⟨b',c',e',h4,rfl⟩:=y;rcases hh.blk k _ hk with ⟨N,Q⟩|⟨b,c,az,N,Q,h3,hn,h5⟩
   ·omega
   ·rw[N]at h4
    obtain⟨rfl,rfl,rfl⟩:_=b'/\_=c'/\_=e':=by simpa using h4
    obtain⟨ho,Y2⟩:=h5 i hi;have hlen:=bQ Y2;unfold lY at ho;simp only[DD]at ho;have h8:=G9 ho.1;rw[bS]at h8;have Y3:i*e+e<=c*e:=by rw[← Hs];exact Hw e I
    refine⟨_,_,rfl,?_,gZ m (gm j Y2)⟩;simp only[lds,Q];rw[DL I,P9,Ma,Mi,PO I]
  ·cases hl
 ·rename_i cs
  obtain⟨g1,rfl⟩:=vU hl;simp only[vr]at y;obtain⟨p,az,rfl,_,Q,h3,_⟩:=y;refine⟨p,az.take m,rfl,?_,gZ m (jV (Nu.nil_sub ν) _ _ h3)⟩;have:=ER (i:=0) (m:=m) Q I hh.zl;have e0:p.add 0=p:=by cases p<;>simp[hU.add,Addr.add]
  rw[e0]at this;simpa using this
 ·cases hl
theorem t8 {v:V} {x:Bj α} (hc:ctx=true) (hs:bM LP (RR ctx h v x) X4):(∀ k i j,v=.pe k i j->∀ e n f ty,h[k]? = some (.gl e n f ty)->i<n)/\bM LP x X4:=by
 unfold RR at hs;split at hs
 ·rename_i k i j
  rw[bk]at hs;split at hs
  ·rename_i e n f ty hk
   let ⟨N,Q⟩:=fH hc hs
   exact⟨λk' i' j' he e' n' f' ty' YP=>by cases he;rw[hk]at YP;cases YP;exact N,Q⟩
  ·exact hs.elim
 ·rename_i Yf;exact⟨λk i j he=>(Yf k i j he).elim,hs⟩
theorem u4:∀ (us az:List ah) (off t:Nat),off+us.length<=az.length->(wr az off us)[t]? = if off<=t/\t<off+us.length then us[t-off]? else az[t]?
 |[],az,off,t,h=>by simp only[wr];rw[Ck (by simp only[List.length_nil];omega)]
 |u::us,az,off,t,h=>by
   simp only[wr];simp only[MN]at h;rw[u4 us _ _ _ (by simp;omega)];by_cases N:off+1<=t/\t<off+1+us.length
   ·rw[DL N,DL ⟨I,by simp;omega⟩,show t-off=(t-(off+1))+1 by omega];simp
   ·rw [Ck N]
    by_cases Q:t=off
    ·subst Q;rw[HM,DL rfl,DL I,DL ⟨Dm _,aD⟩];simp
    ·rw[HM,Ck (Ne.symm Q),Ck (by simp;omega)]
theorem adZ {az us:List ah} {e i i' j:Nat} (Yf:i'≠i) (hj:j+us.length<=e) (hl:i*e+j+us.length<=az.length):((wr az (i*e+j) us).drop (i'*e)).take e=(az.drop (i'*e)).take e:=by
 apply Kk;intro t;rw[Ji,Ji];split
 ·rename_i ht
  rw[LU,LU,u4 _ _ _ _ hl,Ck];intro ⟨N,Q⟩;rcases M3 i' i with h3|h3
  ·have:i'*e+e<=i*e:=by rw[← Hs];exact Hw e h3
   omega
  ·have:i*e+e<=i'*e:=by rw[← Hs];exact Hw e I
   omega
 ·rfl
theorem yav {az us:List ah} {e i j:Nat} (hj:j+us.length<=e) (hl:i*e+e<=az.length):((wr az (i*e+j) us).drop (i*e)).take e=wr ((az.drop (i*e)).take e) j us:=by
 apply Kk;intro t;rw[u4 _ _ _ _ (by simp;omega),Ji];split
 ·rename_i ht
  rw[LU,u4 _ _ _ _ I];by_cases N:j<=t/\t<j+us.length
  ·rw[DL N,DL I];congr 1;omega
  ·rw[Ck N,Ck I,Ji,DL ht,LU]
 ·rename_i ht;rw[Ck I,Ji,Ck ht]
theorem uF:∀ {cs:List V} {off:Nat} {xs r:List V},pK cs off xs=some r->cs.all V.one=true->xs.all V.one=true->r.all V.one=true
 |cs,0,[],r,h,N,Q=>by simp[pK]at h;subst h;exact N
 |[],0,x::xs,r,h,N,Q=>by simp[pK]at h
 |c::cs,0,x::xs,r,h,N,Q=>by
   simp[pK]at h;split at h
   ·rename_i r' hr;cases h;simp only[Ib,DD]at N Q ⊢;exact⟨Q.1,uF hr N.2 Q.2⟩
   ·cases h
 |[],off+1,xs,r,h,N,Q=>by simp[pK]at h
 |c::cs,off+1,xs,r,h,N,Q=>by
   simp[pK]at h;split at h
   ·rename_i r' hr;cases h;simp only[Ib,DD]at N ⊢;exact⟨N.1,uF hr N.2 Q⟩
   ·cases h
theorem CW:∀ (cs:List V) (j:Nat) (xs:List V),j+xs.length<=cs.length->pK cs j xs=some (cs.take j++(xs++cs.drop (j+xs.length)))
 |cs,0,[],_=>by simp[pK]
 |[],0,x::xs,h=>by simp at h
 |c::cs,0,x::xs,h=>by simp[pK];rw[CW cs 0 xs (by simp at h ⊢;omega)];simp
 |[],j+1,xs,h=>by simp at h
 |c::cs,j+1,xs,h=>by simp[pK];rw[CW cs j xs (by simp at h;omega)];simp[show j+1+xs.length=(j+xs.length)+1 by omega]
theorem E7 (cs:List V) (j:Nat) (xs:List V):∀ (m t k:Nat),(Tb cs j xs t m)[k]? = if k<m then some (cond (Nat.ble j (t+k)&&Nat.blt (t+k) (j+bU xs)) (He xs (t+k-j)) (He cs (t+k))) else none
 |0,t,k=>by simp[Tb]
 |m+1,t,0=>by simp[Tb]
 |m+1,t,k+1=>by
   simp only[Tb,Jv];rw[E7 cs j xs m (t+1) k,show t+1+k=t+(k+1) by omega];by_cases h:k<m
   ·rw[DL h,DL I]
   ·rw[Ck h,Ck I]
theorem rT {l:List V} {i:Nat} (h:i<l.length):l[i]? = some (He l i):=by unfold He;rw[bk,KO h]
theorem Kj {e:Nat} {cs:List V} (h:cs.length=e) (j:Nat) (xs:List V):QY e cs j xs=pK cs j xs:=by
 unfold QY;rw[bS];cases hb:Nat.ble (j+xs.length) e with
 |false=>
   cases hw:pK cs j xs with
   |none=>rfl
   |some r=>have:=(oe hw).1;rw[KW I]at hb;cases hb
 |true=>
   have Y3:=HS hb;rw[CW cs j xs I];simp[cond_true,H2];apply Kk;intro k;rw[E7,Ic,bS,JS,JS,Ji,LU,Qr];by_cases N:k<j
   ·have YX:Nat.ble j k=false:=by
     cases hq:Nat.ble j k with
     |false=>rfl|true=>have:=HS hq;omega
    rw[DL I,DL I,DL N,YX];exact(rT I).symm
   ·have YX:Nat.ble j k=true:=KW I
    by_cases Q:k<j+xs.length
    ·have Yy:Nat.blt k (j+xs.length)=true:=KW Q;rw[DL I,Ck I,DL I,YX,Yy,show min j cs.length=j by omega];exact(rT I).symm
    ·have Yy:Nat.blt k (j+xs.length)=false:=by
      cases hq:Nat.blt k (j+xs.length) with
      |false=>rfl|true=>have:=HS hq;omega
     have e1:j+xs.length+(k-min j cs.length-xs.length)=k:=by omega
     by_cases h3:k<e
     ·rw[DL h3,Ck I,Ck I,YX,Yy,e1];exact(rT I).symm
     ·rw[Ck h3,Ck I,Ck I,e1,IP I]
theorem aeP {v:V} (h:v.flat=true):v.cells.all V.one=true:=by cases v<;>first|exact h|(simp[V.flat,V.cells,V.one]at h ⊢)
theorem LC (hh:HR w0 ν nV nS h lh) {v:V} {xs:List V} {us:List ah} {a:ah} (y:vr w0 ν.z ν v a) (hx:bp w0 ν.z ν xs us) (ho:xs.all V.one=true) (hl:Ss h xs v=some h') (aa:∀ k i j,v=.pe k i j->∀ e n f ty,h[k]? = some (.gl e n f ty)->i<n) :
 ∃b off cs ty k c e,a=.ptr (some (.l b off))/\lh[b]? = some (.cells cs ty)/\off+us.length<=cs.length/\HR w0 ν nV nS h' (lh.set b (.cells (wr cs off us) ty))/\jt h v=some [k]/\ν k=some (some (b,c,e)):=by
 unfold Ss at hl;split at hl
 ·rename_i k off
  rw[bk]at hl;split at hl
  ·rename_i cs ty hk
   split at hl
   ·rename_i r hr
    cases hl
    let ⟨b,c,e,az,N,Q,h3⟩:=hh.blk k _ hk
    simp only[vr]at y;obtain⟨b',c',e',h4,rfl⟩:=y;rw[N]at h4;obtain⟨rfl,rfl,rfl⟩:_=b'/\_=c'/\_=e':=by simpa using h4
    have fx:=d8 hk;have XD:=(List.getElem?_eq_some_iff.1 Q).1;refine⟨b,off,az,ty,k,c,e,rfl,Q,by have:=oe hr;have:=bQ h3;have:=bQ hx;omega,?_,?_,N⟩
    ·rw[gY];refine hh.set fx N (by rw[Q];rfl) rfl ⟨b,c,e,wr az off us,N,by simp[XD],vO h3 hx hr⟩
    ·simp[jt];unfold bg at fx;rw[fx];rfl
   ·cases hl
  ·cases hl
 ·rename_i k i j
  rw[bk]at hl;split at hl
  ·rename_i e n f ty hk
   cases ZA:Nat.ble (j+bU xs) e with
   |false=>rw[ZA]at hl;cases hl
   |true=>
     rw[ZA]at hl;cases hl;have hr:QY e (f i) j xs=some (Tb (f i) j xs 0 e):=by unfold QY;rw[ZA];rfl
     revert hr;generalize ay:Tb (f i) j xs 0 e=r;intro hr;have hi:=aa k i j rfl _ _ _ _ hk;simp[vr]at y;obtain⟨b',c',e',h4,rfl⟩:=y;have fx:=gC hk;rcases hh.blk k _ hk with ⟨N,Q⟩|⟨b,c,az,N,Q,h3,hn,h5⟩
     ·omega
     ·rw [N]at h4
      obtain⟨rfl,rfl,rfl⟩:_=b'/\_=c'/\_=e':=by simpa using h4
      have XD:=(List.getElem?_eq_some_iff.1 Q).1
      let ⟨Z2,Y2⟩:=h5 i hi
      have new6:=bQ hx;have hlen:=bQ Y2;unfold lY at Z2;simp only[DD]at Z2;have h8:=G9 Z2.1;rw[bS]at h8;rw[Kj h8]at hr;have hwl:=oe hr;have Y3:i*e+e<=c*e:=by rw[← Hs];exact Hw e I
      refine⟨b,i*e+j,az,ty,k,c,e,rfl,Q,I,?_,?_,N⟩
      ·rw [gY]
       refine hh.set fx N (by rw[Q];rfl) rfl (.inr ⟨b,c,wr az (i*e+j) us,N,by simp[XD],by rw[nX];exact h3,hn,λi' YC=>?_⟩);by_cases he:i'=i
       ·subst he
        simp[RB,OK,cond_true,ay];refine⟨?_,?_⟩
        ·unfold lY;simp only[DD];exact⟨by rw[bS,hwl.2,h8];simp,uF hr Z2.2 ho⟩
        ·rw[yav I I];exact vO Y2 hx hr
       ·have:Nat.beq i' i=false:=by
         cases hb:Nat.beq i' i with
         |false=>rfl|true=>exact(he (G9 hb)).elim
        simp[RB,this,cond_false];refine⟨(h5 i' YC).1,?_⟩;rw[adZ he I I];exact(h5 i' YC).2
      ·simp[jt];unfold bg at fx;rw[fx];rfl
  ·cases hl
 ·cases hl
end
section
variable {w0:World} {ν ν':Nu} {nV nS XE:Nat} {h h':List AX} {lh lh':List av} {α:Type} {LP:eZ} {X4:α->Prop} {e:bV} {sl:List ah} {ctx:Bool}
theorem dh:∀ {n:Nat} {p:Nat->Bool},HC n p=true->∀ i,i<n->p i=true
 |0,p,_,i,hi=>by omega
 |n+1,p,hp,i,hi=>by
   simp[HC,DD]at hp;by_cases e:i=n
   ·subst e;exact hp.2
   ·exact dh hp.1 i I
theorem gD:∀ {n:Nat} {p:Nat->Bool},(∀ i,i<n->p i=true)->HC n p=true
 |0,p,_=>rfl|n+1,p,hp=>by simp[HC,DD];exact⟨gD λi hi=>hp i I,hp n I⟩
theorem R30 {a:Addr}:∀ (n i:Nat),(∀ t,t<n->∃ v,w0.cell? (a.add (i+t))=some v)->∃ az,gf w0 a i n=some az
 |0,i,_=>⟨[],rfl⟩
 |n+1,i,hc=>by
   let ⟨v,y⟩:=hc 0 I
   obtain⟨az,has⟩:=R30 n (i+1) (λt ht=>by have:=hc (t+1) I;rw[show i+1+t=i+(t+1) by omega];exact this);exact⟨bL v::az,by simp[gf,has];simp[M1]at y;rw[y]⟩
theorem mf {esz:Nat} {l:List V} (ho:lY esz l=true):l.length=esz/\l.all V.one=true:=by unfold lY at ho;simp only[DD]at ho;exact⟨by rw[← bS];exact G9 ho.1,ho.2⟩
theorem Sb {esz:Nat} {l:List V} (N:l.length=esz) (Q:l.all V.one=true):lY esz l=true:=by unfold lY;rw[bS,N,Q];simp
theorem iP {esz:Nat}:∀ {n:Nat} {az:List ah},az.length=n*esz->(∀ i,i<n->((az.drop (i*esz)).take esz).all ah.one=true)->az.all ah.one=true
 |0,az,hl,_=>by simp at hl;subst hl;rfl
 |n+1,az,hl,hc=>by rw[← Qk esz az,List.all_append,DD];refine⟨by have:=hc 0 I;simpa using this,iP (esz:=esz) (n:=n) (by simp[hl,Hs]) (λi hi=>?_)⟩;have:=hc (i+1) I;rw[Ma,show esz+i*esz=(i+1)*esz by rw[Hs];omega];exact this
theorem ms {az:List ah} {n esz i:Nat} (hi:i<n):((az.take (n*esz)).drop (i*esz)).take esz=(az.drop (i*esz)).take esz:=by
 have:i*esz+esz<=n*esz:=by rw[← Hs];exact Hw esz hi
 rw[P9,Mi,PO I]
theorem aex {α:Type} {az:List α} {n esz i:Nat} (hl:az.length=n*esz) (hi:i<n):((az.drop (i*esz)).take esz).length=esz:=by
 have:i*esz+esz<=n*esz:=by rw[← Hs];exact Hw esz hi
 simp;omega
theorem EP {α:Type} {p:α->Bool} {l:List α} (a b:Nat) (hl:l.all p=true):((l.drop a).take b).all p=true:=by
 rw[OC]at *
 exact λx hx=>hl x (List.mem_of_mem_drop (List.mem_of_mem_take hx))
theorem G0 (hh:HR w0 ν nV nS h lh) {x:V} {a:ah} {esz m:Nat} {g:bl} (y:vr w0 ν.z ν x a) (hs:CI h esz x=some (m,g,true)) :
 ∃X1 c new,a=.slice X1 m c/\cellsOf w0 lh X1 (m*esz)=some new/\new.length=m*esz/\new.all ah.one=true/\∀i,i<m->lY esz (g i)=true/\bp w0 ν.z ν (g i) ((new.drop (i*esz)).take esz):=by
 unfold CI at hs;split at hs
 ·cases hs;simp only[vr]at y;subst y;exact⟨none,0,[],rfl,by simp[cellsOf],aD,rfl,λi hi=>by omega⟩
 ·rename_i n f
  simp only[H2,Prod.mk.injEq]at hs;obtain⟨rfl,rfl,Z2⟩:=hs;have Z2:=dh Z2;simp only[vr]at y;obtain⟨p,c,esz',rfl,_,_,hp,YO⟩:=y;cases n with
  |zero=>
    refine⟨p,c,[],rfl,?_,aD,rfl,λi hi=>by omega⟩;cases p with
    |none=>simp[cellsOf]
    |some X1=>cases X1 with|l k off=>obtain⟨cs,ty,N,Q⟩:=hp;simp[cellsOf,lds,hh.zl _ _ _ N,Q]|g a=>simp[cellsOf,lds,gf]
  |succ n=>
    obtain⟨X1,as0,rfl,sa,wz⟩:=YO 0 I;have YD:esz'=esz:=by have:=qA sa;have N:=bQ wz.1;have Q:=(mf (Z2 0 I)).1;omega
    subst YD;cases X1 with
    |l k off=>
      have hel':∀ i,i<n+1->∃ cs ty,ν.z[k]? = some (.cells cs ty)/\off+i*esz'+esz'<=cs.length/\bp w0 ν.z ν (f i) ((cs.drop (off+i*esz')).take esz'):=λi hi=>by
       obtain⟨q',az,e1,e2,e3,_⟩:=YO i hi;cases e1;simp only[hU.add,lds]at e2;split at e2
       ·rename_i cs ty hk
        split at e2
        ·rename_i Y3;cases e2;exact⟨cs,ty,hk,Y3,jV (Nu.nil_sub ν) _ _ e3⟩
        ·cases e2
       ·cases e2
      obtain⟨cs,ty,c1,c2,_⟩:=hel' n I;have hm:(n+1)*esz'=n*esz'+esz':=Hs n esz';have hlen:((cs.drop off).take ((n+1)*esz')).length=(n+1)*esz':=by simp;omega
      have Yj:∀i,i<n+1->lY esz' (f i)=true/\bp w0 ν.z ν (f i) ((((cs.drop off).take ((n+1)*esz')).drop (i*esz')).take esz'):=λi hi=>by obtain⟨cs',ty',d1,d2,d3⟩:=hel' i hi;rw[c1]at d1;cases d1;refine⟨Z2 i hi,?_⟩;rw[ms hi,Ma];exact d3
      refine⟨_,c,_,rfl,?_,hlen,iP hlen λi hi=>jP (Yj i hi).2 (mf (Yj i hi).1).2,Yj⟩;simp only[cellsOf,lds,hh.zl _ _ _ c1];rw[DL I]
    |g a=>
      have hel':∀i,i<n+1->∃az,gf w0 (a.add (i*esz')) 0 esz'=some az/\bp w0 ν.z ν (f i) az:=λi hi=>by obtain⟨q',az,e1,e2,e3,_⟩:=YO i hi;cases e1;exact⟨az,e2,jV (Nu.nil_sub ν) _ _ e3⟩
      obtain⟨new,hnew⟩:=R30 (w0:=w0) (a:=a) ((n+1)*esz') 0 (λt ht=>by
       by_cases he:esz'=0
       ·subst he;simp at ht
       ·have hi:t / esz'<n+1:=by
         rw[Nat.div_lt_iff_lt_mul I];exact ht
        obtain⟨az,e1,_⟩:=hel' _ hi;obtain⟨vs,_,hl,hc⟩:=er _ _ _ e1;have hm:t % esz'<vs.length:=by rw[hl];exact Nat.mod_lt _ I
        have:=hc (t % esz') _ (KO hm);rw[yj]at this;rw[Ic]at this;rw[Nat.mul_comm,Nat.div_add_mod]at this;exact⟨_,by rw[Ic];exact this⟩)
      have hlen:new.length=(n+1)*esz':=by obtain⟨vs,rfl,Q,_⟩:=er _ 0 new hnew;simpa using Q
      have Yj:∀ i,i<n+1->lY esz' (f i)=true/\bp w0 ν.z ν (f i) ((new.drop (i*esz')).take esz'):=λi hi=>by
       obtain⟨az,e1,e2⟩:=hel' i hi;have Y3:i*esz'+esz'<=(n+1)*esz':=by rw[← Hs];exact Hw esz' hi
       have:=aa6 hnew Y3;rw[e1]at this;cases this;exact⟨Z2 i hi,e2⟩
      exact⟨_,c,new,rfl,hnew,hlen,iP hlen λi hi=>jP (Yj i hi).2 (mf (Yj i hi).1).2,Yj⟩
 ·rename_i k n
  rw[bk]at hs;split at hs
  ·rename_i e n' f ty hk
   cases he:Nat.beq e esz with
   |false=>rw[he]at hs;cases hs
   |true=>
     rw[he]at hs;have:=G9 he;subst this;simp only[cond_true,H2,Prod.mk.injEq]at hs;obtain⟨rfl,rfl,Y3⟩:=hs;have Y3:=HS Y3;simp only[vr]at y;rcases hh.blk k _ hk with ⟨N,Q⟩|⟨b,c,az,N,Q,h3,hn,h5⟩
     ·rcases y with ⟨_,h3,h4⟩|⟨b,c,e,h3,_⟩
      ·subst h3 h4;exact⟨none,0,[],rfl,by simp[cellsOf],aD,rfl,λi hi=>by omega⟩
      ·rw[N]at h3;cases h3
     ·rcases y with ⟨h6,_⟩|⟨b',c',e',h6,rfl,yaX⟩
      ·rw[N]at h6;cases h6
      ·rw [N]at h6
       obtain⟨rfl,rfl,rfl⟩:_=b'/\_=c'/\_=e':=by simpa using h6
       have ZS:n*e<=c*e:=Hw e I;have hlen:(az.take (n*e)).length=n*e:=by simp;omega
       have Yj:∀i,i<n->lY e (f i)=true/\bp w0 ν.z ν (f i) (((az.take (n*e)).drop (i*e)).take e):=λi hi=>by rw[ms hi];exact h5 i I
       refine⟨_,c,az.take (n*e),rfl,?_,hlen,iP hlen λi hi=>jP (Yj i hi).2 (mf (Yj i hi).1).2,Yj⟩;simp only[cellsOf,lds,Q];rw[DL I];simp
  ·cases hs
 ·rename_i k off n c0
  rw[bk]at hs;split at hs
  ·rename_i cs ty hk
   split at hs
   ·rename_i ds fe
    cases hd:ds.all V.one with
    |false=>rw[hd]at hs;cases hs
    |true=>
      rw[hd]at hs;simp only[cond_true]at hs;obtain⟨g1,rfl⟩:=qY fe;obtain⟨b,c,e,az,N,Q,h3⟩:=hh.blk k _ hk;simp only[vr]at y;obtain⟨b',c',e',h4,rfl⟩:=y;rw[N]at h4;obtain⟨rfl,rfl,rfl⟩:_=b'/\_=c'/\_=e':=by simpa using h4
      have sP:=bQ h3;have Y2:=gZ (n*esz) (gm off h3);have hlen:((az.drop off).take (n*esz)).length=n*esz:=by simp;omega
      have hlenV:((cs.drop off).take (n*esz)).length=n*esz:=by simp;omega
      have ZC:cellsOf w0 lh (some (.l b off)) (n*esz)=some ((az.drop off).take (n*esz)):=by simp only[cellsOf,lds,Q];rw[DL I]
      have hone:=jP Y2 hd;split at hs
      ·simp only[H2,Prod.mk.injEq]at hs
       obtain⟨rfl,rfl,_⟩:=hs;refine⟨_,c0,_,rfl,ZC,hlen,hone,λi hi=>?_⟩;have:i=0:=by omega
       subst this;simp only[Nat.one_mul]at *
       refine⟨Sb hlenV hd,?_⟩;simp only[Nat.zero_mul,List.drop_zero,Mi,Nat.min_self];exact Y2
      ·simp only[H2,Prod.mk.injEq]at hs;obtain⟨rfl,rfl,_⟩:=hs;exact⟨_,c0,_,rfl,ZC,hlen,hone,λi hi=>⟨Sb (aex hlenV hi) (EP _ _ hd),gZ esz (gm (i*esz) Y2)⟩⟩
   ·cases hs
  ·cases hs
 ·rename_i k off n
  rw[bk]at hs;split at hs
  ·rename_i e n' f ty hk
   cases he:Nat.beq e esz with
   |false=>rw[he]at hs;cases hs
   |true=>
     rw[he]at hs;have:=G9 he;subst this;simp only[cond_true,H2,Prod.mk.injEq]at hs;obtain⟨rfl,rfl,Y3⟩:=hs;have Y3:=HS Y3;simp only[vr]at y;rcases hh.blk k _ hk with ⟨N,Q⟩|⟨b,c,az,N,Q,h3,hn,h5⟩
     ·rcases y with ⟨_,h3,_,h4⟩|⟨b,c,e,o,h3,_⟩
      ·subst h3 h4;exact⟨none,0,[],rfl,by simp[cellsOf],aD,rfl,λi hi=>by omega⟩
      ·rw[N]at h3;cases h3
     ·rcases y with ⟨h6,_⟩|⟨b',c',e',o,h6,rfl,⟨hoc,vrel⟩,ho2⟩
      ·rw[N]at h6;cases h6
      ·rw [N]at h6
       obtain⟨rfl,rfl,rfl⟩:_=b'/\_=c'/\_=e':=by simpa using h6
       by_cases a7:n=0
       ·subst a7;refine⟨_,c-off,[],rfl,?_,aD,rfl,λi hi=>by omega⟩;simp only[cellsOf,lds,Q];rw[DL I];simp
       ·have ho:=ho2 I
        subst ho;have ZS:off*e+n*e<=c*e:=by rw[← Ki];exact Hw e hoc
        have hlen:((az.drop (off*e)).take (n*e)).length=n*e:=by simp;omega
        have Yj:∀i,i<n->lY e (f (off+i))=true/\bp w0 ν.z ν (f (off+i)) ((((az.drop (off*e)).take (n*e)).drop (i*e)).take e):=λi hi=>by rw[ms hi,Ma,← Ki];exact h5 (off+i) I
        refine⟨_,c-off,(az.drop (off*e)).take (n*e),rfl,?_,hlen,iP hlen λi hi=>jP (Yj i hi).2 (mf (Yj i hi).1).2,Yj⟩;simp only[cellsOf,lds,Q];rw[DL I]
  ·cases hs
 ·cases hs
theorem Gn {esz n m:Nat} {f g:bl} {old new tail az:List ah} (has:az=old++new++tail) (ho:old.length=n*esz) (hn:new.length=m*esz)
 (N:∀i,i<n->lY esz (f i)=true/\bp w0 ν.z ν (f i) ((old.drop (i*esz)).take esz)) (Q:∀i,i<m->lY esz (g i)=true/\bp w0 ν.z ν (g i) ((new.drop (i*esz)).take esz)) :
 ∀i,i<n+m->lY esz (dl n f g i)=true/\bp w0 ν.z ν (dl n f g i) ((az.drop (i*esz)).take esz):=by
 intro i hi;subst has;unfold dl;by_cases XD:i<n
 ·have hb:Nat.blt i n=true:=KW XD
  rw[hb];have:i*esz+esz<=n*esz:=by rw[← Hs];exact Hw esz XD
  simp only[cond_true];rw[QG,Qi I,Qh (by simp;omega)];exact N i XD
 ·have hb:Nat.blt i n=false:=by
   cases hb:Nat.blt i n with
   |false=>rfl|true=>have:=HS hb;omega
  rw[hb];have YC:i-n<m:=by omega
  have e1:i*esz=n*esz+(i-n)*esz:=by rw[← Ki];congr 1;omega
  have e2:(i-n)*esz+esz<=m*esz:=by rw[← Hs];exact Hw esz YC
  simp only[cond_false];rw[e1,← Ma,QG,← ho,List.drop_left,Qi I,Qh (by simp;omega)];exact Q _ YC
theorem hide_get {k j:Nat} {o:AX} (hj:(h.set k .hid)[j]? = some o) (ho:o≠.hid):h[j]? = some o/\j≠k:=by
 rw[HM]at hj;split at hj
 ·split at hj
  ·cases hj;exact(ho rfl).elim
  ·cases hj
 ·rename_i Yf;exact⟨hj,λe=>Yf e.symm⟩
theorem HR.move (hh:HR w0 ν nV nS h lh) {p k b c e esz n:Nat} {f:bl} {ty:TypeId} {az:List ah} (hp:ν p=none) (Yl:p<h'.length) (hk:ν k=some (some (b,c,e))) (Yk:bg h k)
 (ho:h'[p]? = some (.gl esz n f ty)) (hoth:∀j,j ≠ p->h'[j]? = (h.set k .hid)[j]?) (q5:∃as0 t0,lh[b]? = some (.cells as0 t0))
 (hlen:az.length=c*esz) (hn:n<=c/\n<=9223372036854775807) (YO:∀i,i<n->lY esz (f i)=true/\bp w0 ν.z ν (f i) ((az.drop (i*esz)).take esz)) :
 HR w0 (wD ν p (some (b,c,esz))) nV nS h' (lh.set b (.cells az ty))/\ν.sub (wD ν p (some (b,c,esz))):=by
 have hs:=jF (x:=some (b,c,esz)) hp;have hpk:p≠k:=λe1=>by subst e1;rw[hp]at hk;cases hk
 let ⟨as0,t0,Yb⟩:=q5
 have ZA:=(List.getElem?_eq_some_iff.1 Yb).1;have hlive:∀ j,j≠p->bg h' j->bg h j/\j≠k:=λj hj hl=>by
  rcases fT hl with ⟨_,_,g⟩|⟨_,_,_,_,g⟩
  ·rw[hoth j hj]at g
   let ⟨g1,g2⟩:=hide_get g aD
   exact⟨d8 g1,g2⟩
  ·rw[hoth j hj]at g
   let ⟨g1,g2⟩:=hide_get g aD
   exact⟨gC g1,g2⟩
 refine⟨⟨λj o hj=>?_,λj j' x x' N Q h3 h4 h5=>?_,λj hj=>?_,λj x hj=>?_,λj as' ty' hj=>?_,λj x hj hx=>?_⟩,hs⟩
 ·by_cases e1:j=p
  ·subst e1;rw[ho]at hj;cases hj;exact .inr ⟨b,c,az,fU _ _ _,by simp[ZA],hlen,hn,λi hi=>⟨(YO i hi).1,Ch hs _ _ (YO i hi).2⟩⟩
  ·rw [hoth j e1]at hj
   by_cases bn:o=.hid
   ·subst bn;trivial
   ·let ⟨g1,g2⟩:=hide_get hj bn
    by_cases hd:o=.dead
    ·subst hd
     let ⟨k1,k2,k3⟩:=hh.blk j _ g1
     refine⟨by rw[fS,Ck e1];exact k1,k2,?_⟩;rw[HM,Ck (λe2=>by rw[← e2,Yb]at k3;cases k3)];exact k3
    ·refine dO hs hd (λb' as' ty' q1 q2=>?_) (hh.blk j _ g1)
     rw[HM,Ck]
     ·exact q1
     ·intro e2
      subst e2
      let ⟨c',e',q3⟩:=q2
      have bz:bg h j:=by unfold bg eG;rw[bk,g1];cases o<;>first|rfl|exact(hd rfl).elim|exact(bn rfl).elim
      exact g2 (hh.inj j k _ _ bz Yk q3 hk rfl)
 ·rw [fS]at h3 h4
  by_cases e1:j=p<;>by_cases e2:j'=p
  ·rw[e1,e2]
  ·rw[DL e1]at h3;rw[Ck e2]at h4;cases h3
   let ⟨g1,g2⟩:=hlive j' e2 Q
   exact absurd (hh.inj j' k _ _ g1 Yk h4 hk h5.symm) g2
  ·rw[Ck e1]at h3;rw[DL e2]at h4;cases h4
   let ⟨g1,g2⟩:=hlive j e1 N
   exact absurd (hh.inj j k _ _ g1 Yk h3 hk h5) g2
  ·rw[Ck e1]at h3;rw[Ck e2]at h4;exact hh.inj j j' x x' (hlive j e1 N).1 (hlive j' e2 Q).1 h3 h4 h5
 ·have e1:j≠p:=λe1=>by subst e1;omega
  rw[fS,Ck e1];apply hh.dom;have:=hoth j e1;rw[IP hj]at this;have:=List.getElem?_eq_none_iff.1 this.symm;simpa using this
 ·rw[fS]at hj
  split at hj
  ·cases hj;simpa using ZA
  ·simpa using hh.rng j x hj
 ·have ZJ:ν.z[j]? = some (.cells as' ty'):=hj
  rw[HM,Ck λe2=>?_]
  ·exact hh.zl j as' ty' ZJ
  ·subst e2;exact ls (hh.zn k _ Yk hk) _ _ ZJ
 ·rw[fS]at hx
  by_cases e1:j=p
  ·rw[DL e1]at hx;cases hx;exact hh.zn k (b,c,e) Yk hk
  ·rw[Ck e1]at hx;exact hh.zn j x (hlive j e1 hj).1 hx
theorem HR.renu (hh:HR w0 ν nV nS h lh) {p k b c e esz:Nat} {f:bl} {ty:TypeId} {az:List ah} (hp:ν p=none) (Yl:p<h'.length) (hk:ν k=some (some (b,c,e))) (Yk:bg h k)
 (ho:h'[p]? = some (.gl esz 0 f ty)) (hoth:∀j,j ≠ p->h'[j]? = (h.set k .hid)[j]?) (q5:∃as0 t0,lh[b]? = some (.cells as0 t0)) (has:az=[]) :
 HR w0 (wD ν p (some (b,0,esz))) nV nS h' (lh.set b (.cells az ty))/\ν.sub (wD ν p (some (b,0,esz))):=by
 subst has;have hs:=jF (x:=some (b,0,esz)) hp;have hpk:p≠k:=λe1=>by subst e1;rw[hp]at hk;cases hk
 let ⟨as0,t0,Yb⟩:=q5
 have ZA:=(List.getElem?_eq_some_iff.1 Yb).1;have hlive:∀ j,j≠p->bg h' j->bg h j/\j≠k:=λj hj hl=>by
  rcases fT hl with ⟨_,_,g⟩|⟨_,_,_,_,g⟩
  ·rw[hoth j hj]at g
   let ⟨g1,g2⟩:=hide_get g aD
   exact⟨d8 g1,g2⟩
  ·rw[hoth j hj]at g
   let ⟨g1,g2⟩:=hide_get g aD
   exact⟨gC g1,g2⟩
 refine⟨⟨λj o hj=>?_,λj j' x x' N Q h3 h4 h5=>?_,λj hj=>?_,λj x hj=>?_,λj as' ty' hj=>?_,λj x hj hx=>?_⟩,hs⟩
 ·by_cases e1:j=p
  ·subst e1;rw[ho]at hj;cases hj;exact .inr ⟨b,0,[],fU _ _ _,by simp[ZA],aD,⟨Dm _,I⟩,λi hi=>by omega⟩
  ·rw [hoth j e1]at hj
   by_cases bn:o=.hid
   ·subst bn;trivial
   ·let ⟨g1,g2⟩:=hide_get hj bn
    by_cases hd:o=.dead
    ·subst hd
     let ⟨k1,k2,k3⟩:=hh.blk j _ g1
     refine⟨by rw[fS,Ck e1];exact k1,k2,?_⟩;rw[HM,Ck (λe2=>by rw[← e2,Yb]at k3;cases k3)];exact k3
    ·refine dO hs hd (λb' as' ty' q1 q2=>?_) (hh.blk j _ g1)
     rw[HM,Ck]
     ·exact q1
     ·intro e2
      subst e2
      let ⟨c',e',q3⟩:=q2
      have bz:bg h j:=by unfold bg eG;rw[bk,g1];cases o<;>first|rfl|exact(hd rfl).elim|exact(bn rfl).elim
      exact g2 (hh.inj j k _ _ bz Yk q3 hk rfl)
 ·rw [fS]at h3 h4
  by_cases e1:j=p<;>by_cases e2:j'=p
  ·rw[e1,e2]
  ·rw[DL e1]at h3;rw[Ck e2]at h4;cases h3
   let ⟨g1,g2⟩:=hlive j' e2 Q
   exact absurd (hh.inj j' k _ _ g1 Yk h4 hk h5.symm) g2
  ·rw[Ck e1]at h3;rw[DL e2]at h4;cases h4
   let ⟨g1,g2⟩:=hlive j e1 N
   exact absurd (hh.inj j k _ _ g1 Yk h3 hk h5) g2
  ·rw[Ck e1]at h3;rw[Ck e2]at h4;exact hh.inj j j' x x' (hlive j e1 N).1 (hlive j' e2 Q).1 h3 h4 h5
 ·have e1:j≠p:=λe1=>by subst e1;omega
  rw[fS,Ck e1];apply hh.dom;have:=hoth j e1;rw[IP hj]at this;have:=List.getElem?_eq_none_iff.1 this.symm;simpa using this
 ·rw[fS]at hj
  split at hj
  ·cases hj;simpa using ZA
  ·simpa using hh.rng j x hj
 ·have ZJ:ν.z[j]? = some (.cells as' ty'):=hj
  rw[HM,Ck λe2=>?_]
  ·exact hh.zl j as' ty' ZJ
  ·subst e2;exact ls (hh.zn k _ Yk hk) _ _ ZJ
 ·rw[fS]at hx
  by_cases e1:j=p
  ·rw[DL e1]at hx;cases hx;exact hh.zn k (b,c,e) Yk hk
  ·rw[Ck e1]at hx;exact hh.zn j x (hlive j e1 hj).1 hx
theorem HR.virt (hh:HR w0 ν nV nS h lh) {p:Nat} {esz:Nat} {f:bl} {ty:TypeId} (hp:ν p=none) (Yl:p < h'.length) (ho:h'[p]? = some (.gl esz 0 f ty)) (hoth:∀ j,j ≠ p->h'[j]? = h[j]?) :
 HR w0 (wD ν p none) nV nS h' lh/\ν.sub (wD ν p none):=by
 have hs:=jF (x:=none) hp;have hlive:∀j,j≠p->bg h' j->bg h j:=λk hk hl=>by unfold bg eG at *;rw[bk]at *;rw[hoth k hk]at hl;exact hl
 refine⟨⟨λj o hj=>?_,λj j' x x' N Q h3 h4 h5=>?_,λj hj=>?_,λj x hj=>?_,hh.zl,λj x hj hx=>?_⟩,hs⟩
 ·by_cases e1:j=p
  ·subst e1;rw[ho]at hj;cases hj;exact .inl ⟨fU _ _ _,rfl⟩
  ·rw [hoth j e1]at hj
   by_cases hd:o=.dead
   ·subst hd
    let ⟨k1,k2,k3⟩:=hh.blk j _ hj
    exact⟨by rw[fS,Ck e1];exact k1,k2,k3⟩
   ·exact dO hs hd (λ_ _ _ X1 _=>X1) (hh.blk j _ hj)
 ·rw [fS]at h3 h4
  by_cases e1:j=p
  ·rw[DL e1]at h3;cases h3
  ·by_cases e2:j'=p
   ·rw[DL e2]at h4;cases h4
   ·rw[Ck e1]at h3;rw[Ck e2]at h4;exact hh.inj j j' x x' (hlive j e1 N) (hlive j' e2 Q) h3 h4 h5
 ·have e1:j≠p:=λe1=>by subst e1;omega
  rw[fS,Ck e1];apply hh.dom;have:=hoth j e1;rw[IP hj]at this;exact List.getElem?_eq_none_iff.1 this.symm
 ·rw[fS]at hj
  split at hj
  ·cases hj
  ·exact hh.rng j x hj
 ·rw[fS]at hx
  by_cases e1:j=p
  ·rw[DL e1]at hx;cases hx
  ·rw[Ck e1]at hx;exact hh.zn j x (hlive j e1 hj) hx
theorem od {pl:Option Nat} {o:AX} {K:Nat->List AX->Bj α} (hh:HR w0 ν nV nS h lh) (hs:bM LP (fR pl h o K) X4):∃ p h',ν p=none/\p < h'.length/\h'[p]? = some o/\(∀ j,j ≠ p->h'[j]? = h[j]?)/\(pl=none ∨ (pl=some p/\h'=h.set p o/\p < h.length))/\bM LP (K p h') X4:=by
 unfold fR at hs;split at hs
 ·rw[bS,vY]at hs
  refine⟨_,_,hh.dom h.length (Dm _),aD,aD,λk hk=>?_,.inl rfl,hs⟩;rw[JS];split
  ·rfl
  ·rw[IP (by simp;omega),IP I]
 ·rename_i p
  rw[bk]at hs;split at hs
  ·rename_i hd;rw[gY]at hs;have XD:=(List.getElem?_eq_some_iff.1 hd).1;exact⟨_,_,(hh.blk p _ hd).1,by simpa using XD,by simp[XD],λk hk=>by simp[hk.symm],.inr ⟨rfl,rfl,XD⟩,hs⟩
  ·exact hs.elim
theorem ak7 {az us:List ah} {off:Nat} (hl:off+us.length<=az.length):wr az off us=az.take off++us++az.drop (off+us.length):=by
 apply Kk;intro t;rw[u4 _ _ _ _ hl,QG,JS];have N:(az.take off).length=off:=by simp;omega
 rw[N];by_cases Q:t<off
 ·rw[Ck I,DL Q,Ji,DL Q]
 ·rw[Ck Q,JS]
  by_cases h3:t<off+us.length
  ·rw[DL ⟨I,h3⟩,DL I]
  ·rw[Ck I,Ck I,LU];congr 1;omega
theorem afT {z:List ah} (n:Nat):(List.replicate n z).flatten.length=n*z.length:=by
 induction n with
 |zero=>simp|succ n ih=>rw[O2,QF,Md,ih,Hs];omega
theorem qE {p j:Nat} {o:AX} (hl:bg (h.set p o) j):bg h j∨p=j:=by
 by_cases e:p=j
 ·exact .inr e
 ·left;unfold bg eG at *;rw[bk]at *;rw[HM,Ck e]at hl;exact hl
theorem adC {k j:Nat} (hl:bg (h.set k .hid) j):bg h j:=by
 rcases fT hl with ⟨_,_,g⟩|⟨_,_,_,_,g⟩
 ·exact d8 (hide_get g aD).1
 ·exact gC (hide_get g aD).1
theorem zi {p k:Nat} {x At:Option (Nat×Nat×Nat)} (hk:wD ν p x k=some At):ν k=some At∨(p=k/\At=x):=by
 rw[fS]at hk;split at hk
 ·rename_i e;cases hk;exact .inr ⟨e.symm,rfl⟩
 ·exact .inl hk
theorem wK.put {p b c e:Nat} {o:AX} {ob:av} {wn:List Nat} {pl plA:Option Nat} (Yl:pl=some p) (hplA:plA=some b) (hh:h'=h.set p o) (hl:lh'=lh.set b ob):wK ν (wD ν p (some (b,c,e))) wn pl plA h h' lh lh':=by
 subst Yl hplA hh hl;refine⟨aD,λj hj _=>by rw[HM,Ck (λe=>hj (by rw[e]))],λk x hk=>?_,aD,λk hk=>?_,rfl⟩
 ·rcases zi hk with N|⟨rfl,rfl⟩
  ·exact .inl N
  ·exact .inr ⟨rfl,λAt hy=>by cases hy;exact .inl rfl⟩
 ·rcases qE hk with N|rfl
  ·exact .inl N
  ·exact .inr rfl
theorem wK.hide {k:Nat} {wn:List Nat} {pl plA:Option Nat} (hm:wK ν ν' wn pl plA (h.set k .hid) h' lh lh'):wK ν ν' wn pl plA h h' lh lh' :=
 ⟨hm.len,hm.chg,hm.nw,by simpa using hm.hlen,λj hj=>by
   rcases hm.liv j hj with N|N
   ·exact .inl (adC N)
   ·exact .inr N,hm.zz⟩
theorem r4 {n b:Nat} (hb:b≠0) (h:n*b<=140737488355328):n<=9223372036854775807:=by have:n*1<=n*b:=Nat.mul_le_mul_left n (Nat.one_le_iff_ne_zero.2 hb);omega
theorem q7 (hh:HR w0 ν nV nS h lh) {pl plA:Option Nat} (hp:QQ nV nS pl plA) {ty:TypeId} {esz n m c':Nat} {f g:bl} {old new zero:List ah} {K:V->List AX->Bj α} {KA:ah->List av->Prop}
 (hz:zero.length=esz) (ho:old.length=n*esz) (hn:new.length=m*esz) (hc:n+m<=c') (c7:n+m<=9223372036854775807)
 (N:∀i,i<n->lY esz (f i)=true/\bp w0 ν.z ν (f i) ((old.drop (i*esz)).take esz)) (Q:∀i,i<m->lY esz (g i)=true/\bp w0 ν.z ν (g i) ((new.drop (i*esz)).take esz))
 (hs:bM LP (fR pl h (.gl esz (n+m) (dl n f g) ty) λp h=>K (.gs p (n+m)) h) X4)
 (hK:∀v h' ν' a lh',(plA≠none->∀wn,wK ν ν' wn pl plA h h' lh lh')->ν.sub ν'->HR w0 ν' nV nS h' lh'->vr w0 ν'.z ν' v a->bM LP (K v h') X4->KA a lh') :
 place plA lh (.cells (old++new++(List.replicate (c'-(n+m)) zero).flatten) ty) λb lh'=>KA (.slice (some (.l b 0)) (n+m) c') lh':=by
 refine BC (o:=.gl esz (n+m) (dl n f g) ty) (c:=c') (e:=esz) hh hp aD (λp b lh' hb ZD=>.inr ⟨b,c',_,fU _ _ _,hb,?_,⟨hc,c7⟩,λi hi=>?_⟩) hs (λp b h' lh' Yj ZD hr Yc=>hK _ _ _ _ _ (λhn wn=>?_) (jF ZD) hr ?_ Yc)
 ·rw[Md,Md,ho,hn,afT,hz,← Ki,← Ki];congr 1;omega
 ·obtain⟨g1,g2⟩:=Gn rfl ho hn N Q i hi;exact⟨g1,jV (jF ZD) _ _ g2⟩
 ·rcases Yj with ⟨_,e1⟩|⟨e1,e2,e3,e4,_⟩
  ·exact(hn e1).elim
  ·exact wK.put e1 e2 e3 e4
 ·simp only[vr];exact .inr ⟨b,c',esz,fU _ _ _,rfl,hc⟩
theorem yb {p:Nat} (hp:ν p=some none):vr w0 lh ν (.gs p 0) (.slice none 0 0):=by unfold vr;exact .inl ⟨hp,rfl,rfl⟩
theorem pE (f g:bl) (i:Nat):dl 0 f g i=g i:=by
 unfold dl;have:Nat.blt i 0=false:=by
  cases hb:Nat.blt i 0 with
  |false=>rfl|true=>have:=HS hb;omega
 rw[this];simp
theorem atC (az:List ah) (off:Nat):wr az off []=az:=rfl
theorem ain {α:Type} {l:List α} {i:Nat} {x:α} (h:l[i]? = some x):l.set i x=l:=by obtain⟨hi,rfl⟩:=List.getElem?_eq_some_iff.1 h;exact List.set_getElem_self hi
theorem f14 (hh:HR w0 ν nV nS h lh) {pl plA:Option Nat} (hp:QQ nV nS pl plA) {ty:TypeId} {esz bytes:Nat} {zero:List ah} {s x:V} {a a':ah} {K:V->List AX->Bj α} {KA:ah->List av->Prop}
 (Y2:vr w0 ν.z ν s a) (hvx:vr w0 ν.z ν x a') (hz:zero.length=esz) (hs:bM LP (Zh pl h ty esz bytes s x K) X4)
 (hK:∀v h' ν' a lh',(plA≠none->∀wn,(∀l,jt h s=some l->∀k,k∈l->k∈wn)->wK ν ν' wn pl plA h h' lh lh')->ν.sub ν'->HR w0 ν' nV nS h' lh'->vr w0 ν'.z ν' v a->bM LP (K v h') X4->KA a lh'):q8 w0 lh plA ty esz bytes zero KA a a':=by
 unfold Zh at hs;split at hs
 ·exact hs.elim
 ·rename_i m g X1 hsrc
  simp only[bM]at hs;obtain⟨rfl,hs⟩:=hs;obtain⟨X1,c2,new,rfl,hnew,ZT,wS,YO⟩:=G0 hh hvx hsrc;have hKp:∀ v h' ν' a lh',(plA≠none->∀ wn,wK ν ν' wn pl plA h h' lh lh')->ν.sub ν'->HR w0 ν' nV nS h' lh'->vr w0 ν'.z ν' v a->bM LP (K v h') X4->KA a lh' :=
   λv h' ν' a lh' hc=>hK v h' ν' a lh' λYl wn _=>hc Yl wn
  have hKh:∀ k v h' ν' a lh',(plA≠none->∀ wn,wK ν ν' wn pl plA (h.set k .hid) h' lh lh')->ν.sub ν'->HR w0 ν' nV nS h' lh'->vr w0 ν'.z ν' v a->bM LP (K v h') X4->KA a lh' :=
   λk v h' ν' a lh' hc=>hKp v h' ν' a lh' λYl wn=>(hc Yl wn).hide
  have x10:plA≠none->pl≠none:=λhn=>by
   rcases hp with ⟨e1,e2⟩|⟨p,e1,e2⟩
   ·exact(hn e2).elim
   ·rw[e1];simp
  have hvirt:∀ {h0 h':List AX} {p:Nat} {o:AX} {wn:List Nat},plA≠none->(pl=none∨(pl=some p/\h'=h0.set p o/\p<h0.length))->wK ν (wD ν p none) wn pl plA h0 h' lh lh:=by
   intro h0 h' p o wn hn hx;rcases hx with e1|⟨e1,e2,_⟩
   ·exact(x10 hn e1).elim
   ·subst e2
    refine⟨rfl,λ_ _ _=>rfl,λk x hk=>?_,aD,λk hk=>?_,rfl⟩
    ·rcases zi hk with N|⟨rfl,rfl⟩
     ·exact .inl N
     ·exact .inr ⟨e1,λAt hy=>by cases hy⟩
    ·rcases qE hk with N|rfl
     ·exact .inl N
     ·exact .inr e1
  have hmove:∀ {k p b c ez c2 e2:Nat} {h':List AX} {o:AX} {ob:av} {wn:List Nat},plA≠none->ν k=some (some (b,c2,e2))->k∈wn->(pl=none∨(pl=some p/\h'=(h.set k .hid).set p o/\p<(h.set k .hid).length))->wK ν (wD ν p (some (b,c,ez))) wn pl plA h h' lh (lh.set b ob):=by
   intro k p b c ez c2 e2 h' o ob wn hn hk hw hx;rcases hx with e1|⟨e1,e3,_⟩
   ·exact(x10 hn e1).elim
   ·subst e3
    refine⟨aD,λj _ hj=>by rw[HM,Ck (hj k _ hw hk)],λk' x YP=>?_,aD,λk' YP=>?_,rfl⟩
    ·rcases zi YP with N|⟨rfl,rfl⟩
     ·exact .inl N
     ·exact .inr ⟨e1,λAt hy=>by cases hy;exact .inr ⟨k,_,hw,hk,rfl⟩⟩
    ·rcases qE YP with N|rfl
     ·exact .inl (adC N)
     ·exact .inr e1
  split at hs
  ·-- nil
   simp only[bM,DD,IJ,LW]at hs
   let ⟨⟨YD,Yb⟩,hs⟩:=hs
   simp only[vr]at Y2;subst Y2;have hb:bytes≠0:=λe=>by subst e;simp at Yb
   refine⟨new,hnew,λY3=>?_,λXD=>⟨[],by simp[cellsOf],?_,.inr hb,λc' Yg=>?_⟩⟩
   ·have hm:m=0:=by omega
    subst hm
    let ⟨p,h',e1,e2,e3,e4,e6,e5⟩:=od hh hs
    let ⟨r1,r2⟩:=hh.virt e1 e2 e3 e4
    exact hKp _ _ _ _ _ (λhn wn=>hvirt hn e6) r2 r1 (yb (fU _ _ _)) e5
   ·exact growslice_fits XD (by simpa using YD)
   ·have e0:dl 0 (λ_=>[]) g=g:=funext λi=>pE _ g i;have:=q7 (n:=0) (f:=λ_=>[]) (old:=[]) hh hp (K:=K) (KA:=KA) (ty:=ty) (c':=c') (g:=g) (m:=m) hz aD ZT Yg (by rw[Ic];exact r4 hb (by simpa using YD)) (λi hi=>by omega) YO (by rw[e0];simpa using hs) hKp;exact this
  ·-- a list
   rename_i k n;rw[bk]at hs;split at hs
   ·rename_i e n' f ty' hk
    cases hc:(Nat.beq e esz&&Nat.beq ty ty') with
    |false=>rw[hc]at hs;exact hs.elim
    |true=>
      rw[hc]at hs;simp only[DD]at hc;have:=G9 hc.1;subst this;have:=G9 hc.2;subst this;simp only[cond_true,bM,DD,IJ,LW]at hs
      let ⟨⟨⟨hnn,YD⟩,Yb⟩,hs⟩:=hs
      have hb:bytes≠0:=λe=>by subst e;simp at Yb
      rw[gY]at hs;have Yk:=gC hk;have hname:jt h (.gs k n)=some [k]:=by simp only[jt];unfold bg at Yk;rw[Yk];rfl
      simp only[vr]at Y2;rcases hh.blk k _ hk with ⟨N,Q⟩|⟨b,c,az,N,Q,h3,hn,h5⟩
      ·rcases Y2 with ⟨_,h3,h4⟩|⟨b,c,e,h3,_⟩
       ·subst h3 h4
        have e0:dl 0 f g=g:=funext λi=>pE _ g i;refine⟨new,hnew,λY3=>?_,λXD=>⟨[],by simp[cellsOf],?_,.inr hb,λc' Yg=>?_⟩⟩
        ·have hm:m=0:=by omega
         subst hm
         let ⟨p,h',e1,e2,e3,e4,e6,e5⟩:=od (hh.hide1 k) hs
         let ⟨r1,r2⟩:=(hh.hide1 k).virt e1 e2 e3 e4
         exact hKh k _ _ _ _ _ (λhn wn=>hvirt hn e6) r2 r1 (yb (fU _ _ _)) e5
        ·exact growslice_fits XD (by simpa using YD)
        ·exact q7 (n:=0) (f:=f) (old:=[]) (hh.hide1 k) hp (K:=K) (KA:=KA) (c':=c') (g:=g) (m:=m) hz aD ZT Yg (by rw[Ic];exact r4 hb (by simpa using YD)) (λi hi=>by omega) YO (by simpa using hs) (hKh k)
       ·rw[N]at h3;cases h3
      ·rcases Y2 with ⟨h6,_⟩|⟨b',c',e',h6,rfl,yaX⟩
       ·rw[N]at h6;cases h6
       ·rw [N]at h6
        obtain⟨rfl,rfl,rfl⟩:_=b'/\_=c'/\_=e':=by simpa using h6
        have ZS:n*e<=c*e:=Hw e I;have qz:(az.take (n*e)).length=n*e:=by simp;omega
        have hold:∀i,i<n->lY e (f i)=true/\bp w0 ν.z ν (f i) (((az.take (n*e)).drop (i*e)).take e):=λi hi=>by rw[ms hi];exact h5 i I
        refine⟨new,hnew,λY3=>⟨az,_,Q,wS,?_,?_⟩,λXD=>⟨az.take (n*e),?_,?_,.inr hb,λc' Yg=>?_⟩⟩
        ·rw[Ic,ZT,← Ki,h3];exact Hw e Y3
        ·rw[Ic]
         let ⟨p,h',e1,e2,e3,e4,e6,e5⟩:=od (hh.hide1 k) hs
         have hfit:n*e+new.length<=az.length:=by rw[ZT,← Ki,h3];exact Hw e Y3
         let ⟨r1,r2⟩:=hh.move (az:=wr az (n*e) new) e1 e2 N Yk e3 e4 ⟨_,_,Q⟩ (by rw[nX];exact h3) ⟨Y3,r4 hb YD⟩ (Gn (ak7 hfit) qz ZT hold YO)
         exact hK _ _ _ _ _ (λhn wn hw=>hmove hn N (hw _ hname k Li) e6) r2 r1 (by simp only[vr];exact .inr ⟨b,c,e,fU _ _ _,rfl,Y3⟩) e5
        ·simp only[cellsOf,lds,Q];rw[DL I];simp
        ·exact growslice_fits XD YD
        ·exact q7 (hh.hide1 k) hp (K:=K) (KA:=KA) (c':=c') hz qz ZT Yg (r4 hb YD) hold YO hs (hKh k)
   ·exact hs.elim
  ·-- a block of a known size
   rename_i k off n c;split at hs
   ·rename_i m' f q' wt
    have hq2:∃ r,CI h esz (.ss k off n c)=some (n,f,true)/\m'=n/\q'=r:=by
     refine⟨q',?_⟩;have:=wt;unfold CI at this;simp only[bk]at this;split at this
     ·split at this
      ·cases hd:(List.all _ V.one) with
       |false=>rw[hd]at this;cases this
       |true=>
         rw[hd]at this;simp only[cond_true]at this;split at this
         ·cases this;exact⟨wt,rfl,rfl⟩
         ·cases this;exact⟨wt,rfl,rfl⟩
      ·cases this
     ·cases this
    obtain⟨_,hsrc2',rfl,_⟩:=hq2
    let ⟨qs,cs,old,e1,hold,qz,F80_1,helo⟩:=G0 hh Y2 hsrc2'
    have hvs':=Y2;simp only[vr]at hvs';obtain⟨b,c',e',hν,rfl⟩:=hvs';cases e1;split at hs
    ·rename_i a7 hc0
     rw[bk]at hs;split at hs
     ·rename_i ty' hk
      cases hc:(Nat.beq ty ty'&&Nat.beq off 0) with
      |false=>rw[hc]at hs;exact hs.elim
      |true=>
        rw[hc]at hs;simp only[DD]at hc;have:=G9 hc.1;subst this;have:=G9 hc.2;subst this;simp only[cond_true,bM,DD,IJ,LW]at hs
        let ⟨⟨YD,Yb⟩,hs⟩:=hs
        have hb:bytes≠0:=λe=>by subst e;simp at Yb
        rw[gY]at hs;have Yk:=d8 hk;have hname:jt h (.ss k 0 0 0)=some [k]:=by simp only[jt];unfold bg at Yk;rw[Yk];rfl
        let ⟨b2,c2',e2',az,N,Q,h3⟩:=hh.blk k _ hk
        rw[hν]at N;obtain⟨rfl,rfl,rfl⟩:_=b2/\_=c2'/\_=e2':=by simpa using N
        simp only[bp]at h3;subst h3;have e0:dl 0 f g=g:=funext λi=>pE _ g i;refine⟨new,hnew,λY3=>⟨[],_,Q,wS,?_,?_⟩,λXD=>⟨old,hold,?_,.inr hb,λc' Yg=>?_⟩⟩
        ·have hm:m=0:=by omega
         subst hm;simp at ZT;subst ZT;simp
        ·have hm:m=0:=by omega
         subst hm;simp at ZT;subst ZT
         let ⟨p,h',e1,e2,e3,e4,e6,e5⟩:=od (hh.hide1 k) hs
         let ⟨r1,r2⟩:=hh.renu (az:=[]) e1 e2 hν Yk e3 e4 ⟨_,_,Q⟩ rfl
         exact hK _ _ _ _ _ (λhn wn hw=>hmove hn hν (hw _ hname k Li) e6) r2 r1 (by unfold vr;exact .inr ⟨b,0,esz,fU _ _ _,rfl,Dm _⟩) e5
        ·exact growslice_fits XD (by simpa using YD)
        ·exact q7 (n:=0) (f:=f) (hh.hide1 k) hp (K:=K) (KA:=KA) (c':=c') (g:=g) (m:=m) hz qz ZT Yg (by rw[Ic];exact r4 hb (by simpa using YD)) (λi hi=>by omega) YO (by rw[e0];simpa using hs) (hKh k)
     ·exact hs.elim
    ·have ay:bM LP (.ob (decide (c<m'+m/\(m'+m)*bytes<=140737488355328)&&!Nat.beq bytes 0) (fR pl h (.gl esz (m'+m) (dl m' f g) ty) λp h=>K (.gs p (m'+m)) h)) X4->q8 w0 lh plA ty esz bytes zero KA (.slice (some (.l b off)) m' c) (.slice X1 m c2):=λhs=>by
      simp only[bM,DD,IJ,LW]at hs
      let ⟨⟨⟨XD,YD⟩,Yb⟩,hs⟩:=hs
      have hb:bytes≠0:=λe=>by subst e;simp at Yb
      refine⟨new,hnew,λY3=>by omega,λ_=>⟨old,hold,growslice_fits XD YD,.inr hb,λc' Yg=>?_⟩⟩;exact q7 hh hp (K:=K) (KA:=KA) (c':=c') hz qz ZT Yg (r4 hb YD) helo YO hs hKp
     split at hs
     ·simp only [bM]at hs
      cases hm:Nat.beq m 0 with
      |false=>exact ay (hs.2 hm)
      |true=>
        let ⟨ZS,Zn⟩:=hs.1 hm
        have qF:m=0:=G9 hm;have ZS:=HS ZS;subst qF;rw[Nat.zero_mul]at ZT;have hnn:new=[]:=List.length_eq_zero_iff.1 ZT;subst hnn;have ab:=hsrc2';unfold CI at ab;simp only[bk]at ab;split at ab
        ·rename_i csV ty0 hk
         let ⟨b2,c2',e2',az,N,Q,h3⟩:=hh.blk k _ hk
         rw[hν]at N;obtain⟨rfl,rfl,rfl⟩:_=b2/\_=c2'/\_=e2':=by simpa using N
         have hbd:off+m'*esz<=az.length:=by
          have ho:=hold;simp only[cellsOf,lds,Q]at ho;split at ho
          ·assumption
          ·cases ho
         refine⟨[],hnew,λ_=>⟨az,_,Q,wS,by simpa using hbd,?_⟩,λXD=>by omega⟩;rw[atC,show lh.set b (.cells az ty0)=lh from ain Q];exact hK _ _ ν _ _ (λhn wn hw=>wK.refl ..) (Nu.sub_refl _) hh Y2 Zn
        ·cases ab
     ·exact ay hs
   ·exact hs.elim
  ·exact hs.elim
end
section
variable {w0:World} {ν ν':Nu} {nV nS XE:Nat} {h h':List AX} {lh lh':List av} {α:Type} {LP:eZ} {X4:α->Prop} {e:bV} {sl:List ah} {ctx:Bool} {Uc:FuncId->bT}
theorem aal (c:Bool):∀ {x At z:V} {a b:ah},MF c x At=some z->(c=true->vr w0 lh ν x a)->(c=false->vr w0 lh ν At b)->vr w0 lh ν z (if c then a else b):=by
 have key:∀ (x:V),(∀ (At z:V) (a b:ah),MF c x At=some z->(c=true->vr w0 lh ν x a)->(c=false->vr w0 lh ν At b)->vr w0 lh ν z (if c then a else b)):=by
  intro x
  refine V.rec (motive_1:=λx=>∀ (At z:V) (a b:ah),MF c x At=some z->(c=true->vr w0 lh ν x a)->(c=false->vr w0 lh ν At b)->vr w0 lh ν z (if c then a else b))
   (motive_2:=λxs=>∀(ys zs:List V) (az bs:List ah),Hh c xs ys=some zs->(c=true->bp w0 lh ν xs az)->(c=false->bp w0 lh ν ys bs)->bp w0 lh ν zs (if c then az else bs))
   ?_ ?_ ?_ ?_ ?_ ?_ ?_ ?_ ?_ ?_ ?_ ?_ ?_ ?_ ?_ ?_ ?_ ?_ ?_ ?_ ?_ ?_ x
  case refine_1=>
   intro k n At z a b hm N Q;cases At<;>simp[MF]at hm<;>try cases hm
   split at hm
   ·rename_i he _;subst he;cases hm
    simp[vr]at *
    cases c
    ·rw[Q rfl];rfl
    ·rw[N rfl];rfl
   ·cases hm
  case refine_2=>
   intro p At z a b hm N Q;simp[MF]at hm;split at hm
   ·rename_i X1 hq
    cases hm;cases c
    ·have Q:=Q rfl;cases At<;>simp[mW]at hq<;>cases hq<;>(simp[vr]at Q ⊢;subst Q;rfl)
    ·have N:=N rfl;simp[vr]at N ⊢;subst N;rfl
   ·cases hm
  case refine_3=>
   intro p At z a b hm N Q;simp[MF]at hm;split at hm
   ·rename_i X1 hq
    cases hm;cases c
    ·have Q:=Q rfl;cases At<;>simp[mW]at hq<;>cases hq<;>(simp[vr]at Q ⊢;subst Q;rfl)
    ·have N:=N rfl;simp[vr]at N ⊢;subst N;rfl
   ·cases hm
  case refine_4=>
   intro s At z a b hm N Q;cases At<;>simp[MF]at hm<;>try cases hm
   simp[vr]at *
   cases c
   ·rw[Q rfl];rfl
   ·rw[N rfl];rfl
  case refine_5=>
   intro cs ih At z a b hm N Q;cases At<;>simp[MF]at hm<;>try cases hm
   split at hm
   ·rename_i zs hz
    cases hm;simp[vr]at *
    cases c
    ·obtain⟨az,rfl,g⟩:=Q rfl;have:=ih _ _ [] az hz (λh=>by cases h) (λ_=>g);exact⟨az,rfl,by simpa using this⟩
    ·obtain⟨az,rfl,g⟩:=N rfl;have:=ih _ _ az [] hz (λ_=>g) (λh=>by cases h);exact⟨az,rfl,by simpa using this⟩
   ·cases hm
  case refine_21=>
   intro ys zs az bs hm N Q;cases ys<;>simp[Hh]at hm<;>cases hm;simp[bp]at *
   cases c
   ·simpa using Q rfl
   ·simpa using N rfl
  case refine_22=>
   intro x xs ihx ihxs ys zs az bs hm N Q;cases ys with
   |nil=>simp[Hh]at hm
   |cons At ys=>
     simp[Hh]at hm;split at hm
     ·rename_i z hz
      split at hm
      ·rename_i zs' uL
       cases hm;cases c
       ·have Q:=Q rfl;simp[bp]at Q ⊢;obtain⟨b,bs,rfl,g1,g2⟩:=Q;have i1:=ihx At z (.any) b hz (λh=>by cases h) (λ_=>g1);have i2:=ihxs ys zs' [] bs uL (λh=>by cases h) (λ_=>g2);exact⟨b,bs,rfl,by simpa using i1,by simpa using i2⟩
       ·have N:=N rfl;simp[bp]at N ⊢;obtain⟨b,bs,rfl,g1,g2⟩:=N;have i1:=ihx At z b (.any) hz (λ_=>g1) (λh=>by cases h);have i2:=ihxs ys zs' bs [] uL (λ_=>g2) (λh=>by cases h);exact⟨b,bs,rfl,by simpa using i1,by simpa using i2⟩
      ·cases hm
     ·cases hm
  all_goals (intros;rename_i hm _ _;simp[MF]at hm)
 intro x At z a b h0 N Q;exact key x At z a b h0 N Q
theorem Ek:∀ {xs ys:List V} {az bs:List ah} {b:Bool},Cd xs ys=some b->bp w0 lh ν xs az->bp w0 lh ν ys bs->cd az bs=some b
 |[],[],az,bs,b,hm,N,Q=>by simp[bp]at N Q;subst N Q;simp[Cd,cd]at *;exact hm
 |[],At::ys,az,bs,b,hm,N,Q=>by cases At<;>simp[Cd]at hm
 |x::xs,[],az,bs,b,hm,N,Q=>by cases x<;>simp[Cd]at hm
 |x::xs,At::ys,az,bs,b,hm,N,Q=>by
   cases x<;>cases At<;>simp[Cd]at hm<;>try cases hm
   split at hm
   ·rename_i he _
    subst he;split at hm
    ·rename_i r hr;cases hm;simp[bp,vr]at N Q;obtain⟨_,az,rfl,rfl,N⟩:=N;obtain⟨_,bs,rfl,rfl,Q⟩:=Q;simp[cd,J6,Ek hr N Q,Hr]
    ·cases hm
   ·cases hm
theorem MK {isMax:Bool} {KA:ah->Prop}:∀ {xs:List V} {x z:V} {az:List ah} {a:ah},PX isMax x xs=some z->vr w0 lh ν x a->bp w0 lh ν xs az->(∀ r,vr w0 lh ν z r->KA r)->mm2 isMax a az KA
 |[],x,z,az,a,hm,N,Q,hK=>by simp[bp]at Q;subst Q;cases x<;>(simp[PX]at hm;cases hm;unfold mm2;exact hK a N)
 |At::xs,x,z,az,a,hm,N,Q,hK=>by
    cases x<;>try (simp[PX]at hm;done)
    cases At<;>simp[PX]at hm<;>try cases hm
    split at hm
    ·rename_i he _;subst he;simp[bp,vr]at N Q;obtain⟨_,az,rfl,rfl,Q⟩:=Q;subst N;unfold mm2;exact⟨rfl,MK hm (by simp[vr]) Q hK⟩
    ·cases hm
theorem h30 {op:BinOp} {k:IntKind} {x At:Int} {K:V->Bj α} {KA:ah->Prop} (hc:ctx=true) (hs:bM LP (NC ctx op k x At K) X4) (hK:∀ v a,vr w0 ν.z ν v a->bM LP (K v) X4->KA a):rl op k x At KA:=by
 cases op<;>simp[NC]at hs<;>simp[rl]
 case quo=>let ⟨N,Q⟩:=fH hc hs;exact⟨N,hK _ _ (by simp[vr]) Q⟩
 case rem=>let ⟨N,Q⟩:=fH hc hs;exact⟨N,hK _ _ (by simp[vr]) Q⟩
 case shl=>let ⟨N,Q⟩:=fH hc hs;exact⟨N,hK _ _ (by simp[vr]) Q⟩
 case shr=>let ⟨N,Q⟩:=fH hc hs;exact⟨N,hK _ _ (by simp[vr]) Q⟩
 all_goals first|exact hs.elim|exact hK _ _ (by simp[vr]) hs
theorem ag3 {op:BinOp} {x At:V} {a b:ah} {K:V->Bj α} {KA:ah->Prop} (hc:ctx=true) (N:vr w0 ν.z ν x a) (Q:vr w0 ν.z ν At b) (hs:bM LP (As ctx op x At K) X4) (hK:∀ v a,vr w0 ν.z ν v a->bM LP (K v) X4->KA a):MB op a b KA:=by
 unfold As at hs;split at hs
 ·simp [vr]at N Q;subst N Q
  split at hs
  ·rename_i he _;subst he;exact⟨rfl,h30 hc hs hK⟩
  ·exact hs.elim
 ·simp[vr]at N Q;subst N Q
  simp[MB];split at hs
  ·exact hK _ _ (by simp[vr]) hs
  ·exact hK _ _ (by simp[vr]) hs
  ·let ⟨g1,g2⟩:=fH hc hs;exact⟨g1,hK _ _ (by simp[vr]) g2⟩
  ·exact hs.elim
 ·exact hs.elim
theorem mZ {v:V} {a:ah} {b:Bool} (y:vr w0 lh ν v a) (hb:mW v=some b):a=.bool b:=by cases v<;>simp[mW]at hb<;>cases hb<;>(simp[vr]at y;exact y)
theorem R45 {cs ds:List V} {off:Nat} {a:ah} (y:vr w0 ν.z ν (.pd cs) a) (hd:qL off cs=some ds):∃p,a=.ptr (some p)/\vr w0 ν.z ν (.pd ds) (.ptr (some (p.add off))):=by simp only[vr]at y;obtain⟨p,az,rfl,N,Q,h3⟩:=y;obtain⟨g1,rfl⟩:=ut hd;refine⟨p,rfl,?_⟩;simp only[vr];have:=ER (i:=off) (m:=cs.length-off) (lh:=ν.z) Q I (lk _);refine⟨_,_,rfl,by cases p<;>exact N,by rw[PG];exact this,?_,List.all_eq_true.2 λx hx=>List.all_eq_true.1 h3.2 x (List.mem_of_mem_drop hx)⟩;have hl:=qA Q;rw[Q4 (by simp;omega)];exact gm off h3.1
theorem iT (At d:Nat) (K:Nat->Prop):bnd none At d K=K d:=rfl
theorem acS {xs:List V} {v:V} (hs:Ss h xs v=some h'):∃ k o,h'=h.set k o/\bg h k:=by
 unfold Ss at hs;split at hs
 ·rename_i k off
  rw[bk]at hs;split at hs
  ·rename_i cs ty hk
   split at hs
   ·cases hs;exact⟨k,_,gY _ _ _,d8 hk⟩
   ·cases hs
  ·cases hs
 ·rename_i k i j
  rw[bk]at hs;split at hs
  ·rename_i e n f ty hk
   cases hb:Nat.ble (j+bU xs) e with
   |true=>rw[hb]at hs;cases hs;exact⟨k,_,gY _ _ _,gC hk⟩|false=>rw[hb]at hs;cases hs
  ·cases hs
 ·cases hs
theorem hok {xs:List V} {v:V} (hs:Ss h xs v=some h'):h'.length=h.length:=by obtain⟨k,o,rfl,_⟩:=acS hs;simp
theorem al1 {xs:List V} {v:V} {j:Nat} (hs:Ss h xs v=some h') (hj:bg h' j):bg h j:=by
 obtain⟨k,o,rfl,hk⟩:=acS hs;rcases qE hj with N|rfl
 ·exact N
 ·exact hk
theorem NH:∀ (xs ys cs:List ah) (o:Nat),wr cs o (xs++ys)=wr (wr cs o xs) (o+xs.length) ys
 |[],ys,cs,o=>by simp[wr]
 |x::xs,ys,cs,o=>by simp[PH,wr,MN];rw[NH xs ys,show o+1+xs.length=o+(xs.length+1) by omega]
theorem agB (n:Nat) (z:List ah):(List.replicate (n+1) z).flatten=(List.replicate n z).flatten++z:=by rw[List.replicate_succ',List.flatten_append];simp
theorem BQ {α:Type}:∀ (l z:List α),l.length=z.length->pK l 0 z=some z
 |[],[],_=>rfl|[],_::_,h=>by cases h
 |_::_,[],h=>by cases h
 |x::l,At::z,h=>by simp[pK];rw[BQ l z (by simpa using h)]
theorem hzl (hh:HR w0 ν nV nS h lh) {k e n' off:Nat} {f:bl} {ty:TypeId} {z:List V} {za:List ah} (hk:h[k]? = some (.gl e n' f ty)) {b c:Nat} (hν:ν k=some (some (b,c,e))) (hz:bp w0 ν.z ν z za) (ho:lY e z=true) :
 ∀n,off+n<=n'->∃cs,lh[b]? = some (.cells cs ty)/\off*e+n*e<=cs.length/\HR w0 ν nV nS (h.set k (.gl e n' (λi=>cond (Nat.ble off i&&Nat.blt i (off+n)) z (f i)) ty)) (lh.set b (.cells (wr cs (off*e) (List.replicate n za).flatten) ty)):=by
 have hb:=hh.blk k _ hk;have wT:=ho;simp only[lY,DD]at wT;have j0:z.length=e:=by have:=G9 wT.1;rwa [bS]at this
 have u6:za.length=e:=by rw[bQ hz,j0]
 rcases hb with ⟨N,_⟩|⟨b',c',az,N,Q,h3,h4,h5⟩
 ·rw[hν]at N;cases N
 rw[hν]at N;obtain⟨rfl,rfl⟩:b=b'/\c=c':=by simpa using N
 intro n;induction n with
 |zero=>
   intro hn;refine⟨az,Q,by rw[h3,Nat.zero_mul,M1];exact Hw e I,?_⟩;have e1:(λi=>cond (Nat.ble off i&&Nat.blt i (off+0)) z (f i))=f:=by
    funext i;have:(Nat.ble off i&&Nat.blt i (off+0))=false:=by
     cases h6:Nat.ble off i with
     |false=>rfl
     |true=>
       have h7:=HS h6;cases hb:Nat.blt i (off+0) with
       |false=>rfl|true=>have:=HS hb;omega
    rw[this];rfl
   rw[e1];have e2:h.set k (.gl e n' f ty)=h:=by
    apply Kk;intro j;rw[HM];split
    ·rename_i e;subst e;let ⟨q1,q2⟩:=List.getElem?_eq_some_iff.1 hk;simp[q1,q2]
    ·rfl
   have e3:lh.set b (.cells (wr az (off*e) (List.replicate 0 za).flatten) ty)=lh:=by
    apply Kk;intro j;rw[HM];split
    ·rename_i e;subst e;let ⟨q1,q2⟩:=List.getElem?_eq_some_iff.1 Q;simp[q1,q2,wr]
    ·rfl
   rw[e2,e3];exact hh
 |succ n ih=>
   intro hn
   let ⟨cs,g1,g2,g3⟩:=ih I
   have fm:k<h.length:=(List.getElem?_eq_some_iff.1 hk).1;have ZA:b<lh.length:=(List.getElem?_eq_some_iff.1 Q).1;have Y0:Ss (h.set k (.gl e n' (λi=>cond (Nat.ble off i&&Nat.blt i (off+n)) z (f i)) ty)) z (.pe k (off+n) 0)=some (h.set k (.gl e n' (λi=>cond (Nat.ble off i&&Nat.blt i (off+(n+1))) z (f i)) ty)):=by
    have sY:(cond (Nat.ble off (off+n)&&Nat.blt (off+n) (off+n)) z (f (off+n))).length=z.length:=by
     have hf:=(h5 (off+n) I).1;simp only[lY,DD]at hf;have:=G9 hf.1;rw[bS]at this;cases (Nat.ble off (off+n)&&Nat.blt (off+n) (off+n)) with
     |true=>rfl|false=>show(f (off+n)).length=_;rw[this,j0]
    simp only[Ss];rw[bk,HM,DL rfl,DL fm];dsimp only
    have hw:=Kj (sY.trans j0) 0 z;rw[BQ _ _ sY]at hw;unfold QY at hw;cases hble:Nat.ble (0+bU z) e with
    |false=>rw[hble]at hw;cases hw|true=>
    rw[hble]at hw;simp only[cond_true,H2]at hw ⊢;rw[gY,List.set_set];congr 3;funext i;unfold RB;rw[hw];cases hi:Nat.beq i (off+n) with
    |true=>have:=G9 hi;subst this;have N:Nat.ble off (off+n)=true:=KW I;have Q:Nat.blt (off+n) (off+(n+1))=true:=KW I;rw[N,Q];rfl
    |false=>
      have Yf:i≠off+n:=λe=>by subst e;rw[OK]at hi;cases hi
      have:Nat.blt i (off+(n+1))=Nat.blt i (off+n):=by
       cases hb:Nat.blt i (off+n) with
       |true=>have:=HS hb;exact KW I
       |false=>
         cases Yy:Nat.blt i (off+(n+1)) with
         |false=>rfl
         |true=>have h7:=HS Yy;have:Nat.blt i (off+n)=true:=KW I;rw[this]at hb;cases hb
      rw[this];rfl
   rw[Q]at g1;cases g1
   let ⟨b2,o2,cs2,ty2,k2,c2,e2',e1,e2,e3,e4,e5,e6⟩:=LC g3 (v:=.pe k (off+n) 0) (a:=.ptr (some (.l b ((off+n)*e+0)))) (by simp only[vr];exact⟨b,c,e,hν,rfl⟩) hz wT.2 Y0 (λk1 i1 j1 he e3 n3 f3 ty3 h6=>by cases he;rw[HM,DL rfl,DL fm]at h6;cases h6;omega)
   obtain⟨rfl,rfl⟩:b=b2/\(off+n)*e+0=o2:=by simpa using e1
   rw[HM,DL rfl,DL ZA]at e2;cases e2;refine⟨az,Q,by rw[nX]at e3;rw[Hs];rw[Ki]at e3;omega,?_⟩;rw[agB,NH];have sY:(List.replicate n za).flatten.length=n*e:=by simp[u6]
   rw[sY];rw[List.set_set]at e4;rw[M1,Ki]at e4;exact e4
theorem zq {cf:CF α} {md:Bool} {pl plA:Option Nat} {op:kl} {K:V->List AX->Bj α} {KA:ah->List av->Prop} {wn:List Nat} (XR:gj w0 ν XE e sl) (hh:HR w0 ν nV nS h lh) (hc:ctx=true) (YK:rC w0 Uc LP md cf)
 (hp:QQ nV nS pl plA) (ZU:md=true->∃l,QL h e pl op=some l/\∀k,k∈l->k∈wn) (hs:bM LP (zQ cf ctx pl op e h K) X4)
 (hK:∀v h' ν' a lh',(md=true->wK ν ν' wn pl plA h h' lh lh')->(kC op=true->ν'=ν/\h'=h/\lh'=lh)->ν.sub ν'->HR w0 ν' nV nS h' lh'->vr w0 ν'.z ν' v a->bM LP (K v h') X4->KA a lh'):db w0 Uc sl lh plA KA op:=by
 have hK0:∀v a,vr w0 ν.z ν v a->bM LP (K v h) X4->KA a lh:=λv a y hs=>hK v h ν a lh (λ_=>wK.refl _ _ _ _ _ _) (λ_=>⟨rfl,rfl,rfl⟩) (Nu.sub_refl ν) hh y hs
 have hplace:∀ {o:AX} {az:List ah} {ty:TypeId} {KP:Nat->List AX->Bj α} {F:Nat->ah} {c ez:Nat},(md=true->∃ p,pl=some p)->kC op=false->o ≠ .dead->(∀ p b lh',lh'[b]? = some (.cells az ty)->ν p=none->Ce w0 (wD ν p (some (b,c,ez))) nV nS lh' p o) ->
  bM LP (fR pl h o KP) X4->(∀p b h' lh',ν p=none->HR w0 (wD ν p (some (b,c,ez))) nV nS h' lh'->bM LP (KP p h') X4->∃v,vr w0 ν.z (wD ν p (some (b,c,ez))) v (F b)/\bM LP (K v h') X4)->place plA lh (.cells az ty) λb lh'=>KA (F b) lh':=by
  intro o az ty KP F c ez Yl Y0 qN hb hs hk
  refine BC hh hp qN hb hs λp b h' lh' Yj ZD hr Yc=>?_
  let ⟨v,y,hsv⟩:=hk p b h' lh' ZD hr Yc
  refine hK v h' _ _ lh' (λhm=>?_) (λe=>by rw[Y0]at e;cases e) (jF ZD) hr y hsv
  let ⟨p',hp''⟩:=Yl hm
  rcases Yj with ⟨g,_⟩|⟨e1,e2,e3,e4,_⟩
  ·rw[hp'']at g;cases g
  ·exact wK.put e1 e2 e3 e4
 have hplN:∀ {z:List Nat},QL h e pl op=some z->(match pl with|some p=>some [p]|none=>none:Option (List Nat))=some z->∃ p,pl=some p:=by
  intro z _ hz
  cases pl with
  |none=>cases hz
  |some p=>exact⟨p,rfl⟩
 cases op<;>simp only[zQ]at hs<;>simp only[db]
 case mov x=>
  let ⟨u,N,Q⟩:=bJ XR hc hs
  exact hK0 _ _ N Q
 case pick c a b=>
  let ⟨u,N,Q⟩:=bJ XR hc hs
  split at Q
  ·simp only[vr]at N;rw[N]
   let ⟨v,g1,g2⟩:=bJ XR hc Q
   exact⟨λ_=>hK0 _ _ g1 g2,λe=>by cases e⟩
  ·simp only[vr]at N;rw[N]
   let ⟨v,g1,g2⟩:=bJ XR hc Q
   exact⟨(λe=>by cases e),λ_=>hK0 _ _ g1 g2⟩
  ·rename_i c
   simp only[vr]at N;rw[N]
   subst hc
   have ha:∀ {x:V} {KK:V->Bj α} {a:fM} {cc:Bool},bM LP (ig (true&&cc) (dF e a) KK) X4->∃ u,(cc=true->vr w0 ν.z ν u (arg sl a))/\bM LP (KK u) X4:=by
    intro x KK a cc hs
    have y:=XR.arg a
    unfold ig at hs
    split at hs
    ·rename_i b u hb
     rw[hb]at y
     simp only[bM]at hs
     simp only[vr]at y
     exact⟨u,λe=>y.1 (by subst e;simpa using hs.1),hs.2⟩
    ·exact⟨_,λ_=>y,hs⟩
   let ⟨x,g1,h3⟩:=ha (x:=.any) Q
   let ⟨At,g2,h4⟩:=ha (x:=.any) h3
   split at h4
   ·rename_i z hz
    have hm:=aal (a:=arg sl a) (b:=arg sl b) c hz g1 (λe=>g2 (by simp[e]))
    refine⟨λe=>?_,λe=>?_⟩
    ·subst e;exact hK0 _ _ (by simpa using hm) h4
    ·subst e;exact hK0 _ _ (by simpa using hm) h4
   ·simp only[bM]at h4
    exact⟨λe=>hK0 _ _ (g1 e) (h4.1 e),λe=>hK0 _ _ (g2 (by simp[e])) (h4.2 e)⟩
  ·simp only[bM]at Q
   exact absurd (Q.1 hc) aA
  ·exact Q.elim
 case new ty z=>
  refine hplace (o:=.cells (z.map EU) ty) (c:=0) (ez:=0) (F:=λb=>.ptr (some (.l b 0))) (λhm=>?_) rfl aD (λp b lh' hb ZD=>⟨b,0,0,z,fU _ _ _,hb,oa z⟩) hs (λp b h' lh' ZD hr Yc=>⟨_,?_,Yc⟩)
  ·let ⟨l,g,_⟩:=ZU hm;exact hplN g g
  ·simp only[vr];exact⟨b,0,0,fU _ _ _,rfl⟩
 case box ty x=>
  let ⟨u,N,Q⟩:=bJ XR hc hs
  cases hf:u.flat with
  |false=>rw[hf]at Q;exact Q.elim
  |true=>
    rw[hf]at Q
    simp only[cond_true]at Q
    let ⟨g1,g2⟩:=uZ N hf
    refine⟨g1,hplace (o:=.cells u.cells ty) (c:=0) (ez:=0) (F:=λb=>.ptr (some (.l b 0))) (λhm=>?_) rfl aD (λp b lh' hb ZD=>⟨b,0,0,_,fU _ _ _,hb,jV (jF ZD) _ _ g2⟩) Q (λp b h' lh' ZD hr Yc=>⟨_,?_,Yc⟩)⟩
    ·let ⟨l,g,_⟩:=ZU hm;exact hplN g g
    ·simp only[vr];exact⟨b,0,0,fU _ _ _,rfl⟩
 case agg z ps=>
  exact r7 XR hc (oa z) hs λcs az g1 g2=>hK0 _ _ (by simp only[vr];exact⟨az,rfl,g1⟩) g2
 case bsl ty n z ps=>
  refine r7 XR hc (oa z) hs λcs az g1 g2=>?_
  refine hplace (o:=.cells cs ty) (c:=0) (ez:=0) (F:=λb=>.slice (some (.l b 0)) n n) (λhm=>?_) rfl aD (λp b lh' hb ZD=>⟨b,0,0,az,fU _ _ _,hb,jV (jF ZD) _ _ g1⟩) g2 (λp b h' lh' ZD hr Yc=>⟨_,?_,Yc⟩)
  ·let ⟨l,g,_⟩:=ZU hm;exact hplN g g
  ·simp only[vr];exact⟨b,0,0,fU _ _ _,rfl⟩
 case ld a=>
  let ⟨u,N,Q⟩:=bJ XR hc hs
  let ⟨aa,h3⟩:=t8 hc Q
  split at h3
  ·rename_i v y
   let ⟨p,x,g1,g2,g3⟩:=CX hh N y aa
   rw[g1]
   exact⟨x,g2,hK0 _ _ g3 h3⟩
  ·exact h3.elim
 case lds n a=>
  let ⟨u,N,Q⟩:=bJ XR hc hs
  let ⟨aa,h3⟩:=t8 hc Q
  split at h3
  ·rename_i v y
   let ⟨p,x,g1,g2,g3⟩:=Gy hh N y aa
   rw[g1]
   exact⟨x,g2,hK0 _ _ (by simp only[vr];exact⟨x,rfl,g3⟩) h3⟩
  ·exact h3.elim
 case st n a x=>
  let ⟨u,N,Q,qc⟩:=Bl hc (XR.arg a) hs
  let ⟨v,h3,h4⟩:=bJ XR hc Q
  let ⟨aa,h5⟩:=t8 hc h4
  cases hf:(v.flat&&Nat.beq (bU v.cells) n) with
  |false=>rw[hf]at h5;exact h5.elim
  |true=>
    rw[hf]at h5
    simp only[cond_true]at h5
    simp only[DD]at hf
    let ⟨g1,g2⟩:=uZ h3 hf.1
    have g3:=G9 hf.2
    rw[bS]at g3
    split at h5
    ·rename_i h' Y0
     let ⟨b,off,cs,ty,k,c,ez,e1,e2,e3,e4,e5,e6⟩:=LC hh N g2 (aeP hf.1) Y0 aa
     rw[e1]
     have hl:=bQ g2
     refine⟨cs,ty,e2,g1,I,I,hK _ _ ν _ _ (λhm=>?_) (λe=>by cases e) (Nu.sub_refl ν) e4 (by simp only[vr,bp];exact⟨[],rfl,rfl⟩) h5⟩
     let ⟨l,q1,q2⟩:=ZU hm
     simp only[QL]at q1
     have:=qc _ _ q1
     subst this
     rw[e5]at q1;cases q1
     refine⟨aD,λj _ hj=>by rw[HM,Ck (hj k _ (q2 k Li) e6)],λ_ _ h=>.inl h,?_,?_,rfl⟩
     ·exact hok Y0
     ·exact λj hj=>.inl (al1 Y0 hj)
    ·exact h5.elim
 case nz x=>
  let ⟨u,N,Q⟩:=bJ XR hc hs
  split at Q
  ·simp only[vr]at N;let ⟨b,c,ez,g1,g2⟩:=N;rw[g2];exact hK0 _ _ (by simp only[vr];exact⟨b,c,ez,g1,rfl⟩) Q
  ·simp only[vr]at N;let ⟨b,c,ez,g1,g2⟩:=N;rw[g2];exact hK0 _ _ (by simp only[vr];exact⟨b,c,ez,g1,rfl⟩) Q
  ·simp only[vr]at N;let ⟨p,az,g1,g2,g3,g4⟩:=N;rw[g1];exact hK0 _ _ (by simp only[vr];exact⟨p,az,rfl,g2,g3,g4⟩) Q
  ·simp only[vr]at N;let ⟨us,vs,g1,g2,g3⟩:=N;rw[g1];exact hK0 _ _ (by simp only[vr];exact⟨us,vs,rfl,g2,g3⟩) Q
  ·exact Q.elim
 case bin op x At=>
  let ⟨u,N,Q⟩:=bJ XR hc hs
  let ⟨v,h3,h4⟩:=bJ XR hc Q
  exact ag3 hc N h3 h4 λv a y hs=>hK0 v a y hs
 case eqa neg n x At=>
  let ⟨u,N,Q⟩:=bJ XR hc hs
  let ⟨v,h3,h4⟩:=bJ XR hc Q
  split at h4
  ·rename_i xs ys
   simp only[vr]at N h3
   let ⟨az,g1,g2⟩:=N
   let ⟨bs,g3,g4⟩:=h3
   rw[g1,g3]
   split at h4
   ·rename_i b hb
    cases hn:Nat.beq (bU xs) n with
    |false=>rw[hn]at h4;exact h4.elim
    |true=>
      rw[hn]at h4
      have:=G9 hn
      rw[bS]at this
      exact⟨by rw[bQ g2];exact this,b,Ek hb g2 g4,hK0 _ _ (by simp only[vr]) h4⟩
   ·exact h4.elim
  ·exact h4.elim
 case eqb neg x At=>
  let ⟨u,N,Q⟩:=bJ XR hc hs
  let ⟨v,h3,h4⟩:=bJ XR hc Q
  split at h4
  ·rename_i a b ha hb
   rw[mZ N ha,mZ h3 hb]
   exact hK0 _ _ (by simp only[vr]) h4
  ·exact h4.elim
 case un op x=>
  let ⟨u,N,Q⟩:=bJ XR hc hs
  split at Q
  ·simp only[vr]at N;rw[N];exact hK0 _ _ (by simp only[vr]) Q
  ·simp only[vr]at N;rw[N];exact hK0 _ _ (by simp only[vr]) Q
  ·simp only[vr]at N;rw[N];exact hK0 _ _ (by simp only[vr]) Q
  ·exact Q.elim
 case conv k x=>
  let ⟨u,N,Q⟩:=bJ XR hc hs
  split at Q
  ·simp only[vr]at N;rw[N];exact hK0 _ _ (by simp only[vr]) Q
  ·exact Q.elim
 case mkf f xs ys=>
  split at hs
  ·let ⟨us,g1,g2⟩:=kF XR hc hs
   let ⟨vs,g3,g4⟩:=kF XR hc g2
   exact hK0 _ _ (by simp only[vr];exact⟨_,_,rfl,g1,g3⟩) g4
  ·exact hs.elim
 case fa off x=>
  let ⟨u,N,Q⟩:=bJ XR hc hs
  split at Q
  ·simp only[vr]at N;let ⟨b,c,ez,g1,g2⟩:=N;rw[g2];exact hK0 _ _ (by simp only[vr];exact⟨b,c,ez,g1,rfl⟩) Q
  ·simp only[vr]at N;let ⟨b,c,ez,g1,g2⟩:=N;rw[g2];exact hK0 _ _ (by simp only[vr];exact⟨b,c,ez,g1,by simp[hU.add,N1]⟩) Q
  ·split at Q
   ·rename_i ds hd
    let ⟨p,g1,g2⟩:=R45 N hd
    rw[g1];exact hK0 _ _ g2 Q
   ·exact Q.elim
  ·exact Q.elim
 case fld off n x=>
  let ⟨u,N,Q⟩:=bJ XR hc hs
  split at Q
  ·simp only [vr]at N;let ⟨az,g1,g2⟩:=N;rw[g1]
   split at Q
   ·rename_i n
    split at Q
    ·rename_i ds hd
     obtain⟨q1,rfl⟩:=qY hd
     exact hK0 _ _ (by simp only[vr];exact⟨_,rfl,gZ n (gm off g2)⟩) Q
    ·exact Q.elim
   ·split at Q
    ·rename_i v y
     rw[bk]at y
     let ⟨a,q1,q2⟩:=my g2 y
     exact⟨a,q1,hK0 _ _ q2 Q⟩
    ·exact Q.elim
  ·exact Q.elim
 case iaA n esz x ix=>
  let ⟨u,N,Q⟩:=bJ XR hc hs
  let ⟨v,h3,h4⟩:=bJ XR hc Q
  split at h4
  ·simp only[vr]at N h3;let ⟨b,c,ez,g1,g2⟩:=N;rw[g2,h3]
   let ⟨⟨q1,q2⟩,q3⟩:=fH hc h4
   exact⟨q1,q2,hK0 _ _ (by simp only[vr];exact⟨b,c,ez,g1,rfl⟩) q3⟩
  ·simp only[vr]at N h3;let ⟨b,c,ez,g1,g2⟩:=N;rw[g2,h3]
   let ⟨⟨q1,q2⟩,q3⟩:=fH hc h4
   exact⟨q1,q2,hK0 _ _ (by simp only[vr];exact⟨b,c,ez,g1,by simp[hU.add,N1]⟩) q3⟩
  ·simp only [vr]at h3
   split at h4
   ·rename_i ds hd
    let ⟨p,g1,g2⟩:=R45 N hd
    rw[g1,h3]
    let ⟨⟨q1,q2⟩,q3⟩:=fH hc h4
    exact⟨q1,q2,hK0 _ _ g2 q3⟩
   ·exact h4.elim
  ·exact h4.elim
 case iaS esz x ix=>
  let ⟨u,N,Q⟩:=bJ XR hc hs
  let ⟨v,h3,h4⟩:=bJ XR hc Q
  split at h4
  ·rename_i n f _ i
   simp only[vr]at N h3
   let ⟨p,c,ez,g1,g2,g3,g4,g5⟩:=N
   rw[g1,h3]
   cases hn:Nat.beq (bU (f i.toNat)) esz with
   |false=>rw[hn]at h4;exact h4.elim
   |true=>
     rw[hn]at h4
     have hl:=G9 hn
     rw[bS]at hl
     let ⟨⟨q1,q2⟩,q3⟩:=fH hc h4
     let ⟨X1,az,k1,k2,k3⟩:=g5 i.toNat I
     subst k1
     have oJ:ez=esz:=by have:=qA k2;have:=bQ k3.1;omega
     subst oJ
     refine⟨q1,q2,X1,rfl,hK0 _ _ ?_ q3⟩
     simp only[vr]
     exact⟨_,az,rfl,h13 k2,by rw[hl];exact k2,k3⟩
  ·simp only[vr]at N h3;let ⟨b,c,ez,g1,g2⟩:=N;rw[g2,h3]
   let ⟨⟨q1,q2⟩,q3⟩:=fH hc h4
   exact⟨q1,q2,_,rfl,hK0 _ _ (by simp only[vr];exact⟨b,c,ez,g1,rfl⟩) q3⟩
  ·rename_i k n _ i
   rw[bk]at h4
   split at h4
   ·rename_i ez n' f ty hk
    cases hn:Nat.beq ez esz with
    |false=>rw[hn]at h4;exact h4.elim
    |true=>
      rw[hn]at h4
      have hl:=G9 hn
      subst hl
      let ⟨⟨q1,q2,q3⟩,q4⟩:=fH hc h4
      simp only[vr]at N h3
      rw[h3]
      rcases N with ⟨g1,g2,g3⟩|⟨b,c,e',g1,g2,_⟩
      ·omega
      ·rw [g2]
       refine⟨q1,q2,_,rfl,hK0 _ _ ?_ q4⟩
       simp only[vr]
       rcases hh.blk k _ hk with ⟨k1,_⟩|⟨b2,c2,az,k1,_⟩
       ·rw[g1]at k1;cases k1
       ·rw[g1]at k1
        obtain⟨rfl,rfl,rfl⟩:b=_/\c=_/\e'=_:=by simpa using k1
        exact⟨b,c,e',g1,by simp[hU.add]⟩
   ·exact h4.elim
  ·rename_i k off n _ i
   rw[bk]at h4
   split at h4
   ·rename_i ez n' f ty hk
    cases hn:Nat.beq ez esz with
    |false=>rw[hn]at h4;exact h4.elim
    |true=>
      rw[hn]at h4
      have hl:=G9 hn
      subst hl
      let ⟨⟨q1,q2,q3⟩,q4⟩:=fH hc h4
      simp only[vr]at N h3
      rw[h3]
      rcases N with ⟨g1,g2,g3⟩|⟨b,c,e',o,g1,g2,_,g4⟩
      ·omega
      ·rw [g2,g4 I]
       refine⟨q1,q2,_,rfl,hK0 _ _ ?_ q4⟩
       simp only[vr]
       rcases hh.blk k _ hk with ⟨k1,_⟩|⟨b2,c2,az,k1,_⟩
       ·rw[g1]at k1;cases k1
       ·rw[g1]at k1
        obtain⟨rfl,rfl,rfl⟩:b=_/\c=_/\e'=_:=by simpa using k1
        exact⟨b,c,e',g1,by simp[hU.add,Ki]⟩
   ·exact h4.elim
  ·let ⟨⟨q1,q2⟩,_⟩:=fH hc h4
   omega
  ·exact h4.elim
 case ixA n esz sz x ix=>
  let ⟨u,N,Q⟩:=bJ XR hc hs
  let ⟨v,h3,h4⟩:=bJ XR hc Q
  split at h4
  ·simp only [vr]at N h3;let ⟨az,g1,g2⟩:=N;rw[g1,h3]
   split at h4
   ·rename_i sz
    split at h4
    ·rename_i ds hd
     let ⟨⟨q1,q2⟩,q3⟩:=fH hc h4
     obtain⟨_,rfl⟩:=qY hd
     exact⟨q1,q2,hK0 _ _ (by simp only[vr];exact⟨_,rfl,gZ sz (gm _ g2)⟩) q3⟩
    ·exact h4.elim
   ·split at h4
    ·rename_i w hw
     rw[bk]at hw
     let ⟨⟨q1,q2⟩,q3⟩:=fH hc h4
     let ⟨a,k1,k2⟩:=my g2 hw
     exact⟨q1,q2,a,k1,hK0 _ _ k2 q3⟩
    ·exact h4.elim
  ·exact h4.elim
 case ixS x ix=>
  let ⟨u,N,Q⟩:=bJ XR hc hs
  let ⟨v,h3,h4⟩:=bJ XR hc Q
  split at h4
  ·simp only[vr]at N h3;rw[N,h3]
   let ⟨⟨q1,q2⟩,q3⟩:=fH hc h4
   exact⟨q1,q2,hK0 _ _ (by simp only[vr]) q3⟩
  ·exact h4.elim
 case len x=>
  let ⟨u,N,Q⟩:=bJ XR hc hs
  split at Q
  ·simp only[vr]at N;let ⟨p,c,ez,g1,_,g3,_⟩:=N;rw[g1];exact hK0 _ _ (by simp only[vr]) (Q λ_=>g3)
  ·simp only[vr]at N;let ⟨p,c,ez,g1,g2⟩:=N;rw[g2];exact hK0 _ _ (by simp only[vr]) Q
  ·simp only[vr]at N
   rcases N with ⟨g1,g2,g3⟩|⟨b,c,e',g1,g2,_⟩
   ·rw[g3];subst g2;exact hK0 _ _ (by simp only[vr]) Q
   ·rw[g2];exact hK0 _ _ (by simp only[vr]) Q
  ·simp only[vr]at N;rw[N];exact hK0 _ _ (by simp only[vr];rfl) Q
  ·simp only[vr]at N
   rcases N with ⟨g1,g2,g3,g4⟩|⟨b,c,e',o,g1,g2,_⟩
   ·rw[g4];subst g2;exact hK0 _ _ (by simp only[vr]) Q
   ·rw[g2];exact hK0 _ _ (by simp only[vr]) Q
  ·exact Q.elim
 case lenT x=>
  let ⟨u,N,Q⟩:=bJ XR hc hs
  split at Q
  ·simp only[vr]at N;rw[N];exact hK0 _ _ (by simp only[vr]) Q
  ·exact Q.elim
 case lenA n=>exact hK0 _ _ (by simp only[vr]) hs
 case mm b x xs=>
  let ⟨u,N,Q⟩:=bJ XR hc hs
  let ⟨us,h3,h4⟩:=kF XR hc Q
  split at h4
  ·rename_i v y
   exact MK y N h3 λr hr=>hK0 _ _ hr h4
  ·exact h4.elim
 case ext x i=>
  let ⟨u,N,Q⟩:=bJ XR hc hs
  split at Q
  ·simp only [vr]at N;let ⟨az,g1,g2⟩:=N;rw[g1]
   split at Q
   ·rename_i v y
    rw[bk]at y
    let ⟨a,q1,q2⟩:=my g2 y
    exact⟨a,q1,hK0 _ _ q2 Q⟩
   ·exact Q.elim
  ·exact Q.elim
 case slS esz x lo hi mx=>
  let ⟨u,N,Q⟩:=bJ XR hc hs
  let ⟨lo',l1,h3⟩:=kz XR hc Q
  let ⟨YC,l2,h4⟩:=kz XR hc h3
  let ⟨mx',l3,h5⟩:=kz XR hc h4
  split at h5
  ·rename_i n f
   split at h5
   ·simp only [UJ]at l3
    rw[l3]
    simp only[vr]at N
    let ⟨p,c,ez,g1,g2,g3,g4,g5⟩:=N
    rw[g1]
    cases hz:Nat.beq (bU (f 0)) esz with
    |false=>rw[hz]at h5;exact h5.elim
    |true=>
      rw[hz]at h5
      simp only[cond_true]at h5
      have hz:=G9 hz
      rw[bS]at hz
      dsimp only
      rw[iT]
      refine rY (x:=YC) (At:=n) g2 (ej hc l2 h5 λb YX Yy h6=>?_)
      have eq:b<=n:=by
       by_cases e1:YC=none
       ·have:=YX e1;omega
       ·exact Yy e1
      refine ej hc l1 h6 λa n9 f9 h7=>hK0 _ _ ?_ h7
      have ak:a<=b:=by
       by_cases e1:lo'=none
       ·have:=n9 e1;omega
       ·exact f9 e1
      simp only[vr]
      refine⟨_,c-a,esz,rfl,I,I,?_,λi hi=>?_⟩
      ·split
       ·exact g4
       ·cases p with
        |none=>trivial
        |some X1=>cases X1 with
          |l k o=>
            let ⟨cs,ty,q1,q2⟩:=g4
            refine⟨cs,ty,q1,?_⟩
            by_cases ha0:a=0
            ·subst ha0;simpa using q2
            ·let ⟨q0,as0,j1,j2,j3⟩:=g5 0 I
             have oJ:ez=esz:=by have:=qA j2;have:=bQ j3.1;omega
             let ⟨q3,as3,m1,m2,_⟩:=g5 (a-1) I
             cases m1
             simp only[hU.add,lds,q1]at m2
             split at m2
             ·rename_i Y3
              have h3:a*ez=(a-1)*ez+ez:=by rw[← Hs];congr 1;omega
              show o+a*esz<=cs.length
              rw[← oJ];omega
             ·cases m2
          |g ad=>trivial
      ·let ⟨X1,az,k1,k2,k3⟩:=g5 (a+i) I
       let ⟨q0,as0,j1,j2,j3⟩:=g5 0 I
       have oJ:ez=esz:=by have:=qA j2;have:=bQ j3.1;omega
       subst oJ
       refine⟨X1.add (a*ez),az,?_,?_,k3⟩
       ·rw[Ck I,k1];rfl
       ·rw[adW,← Ki];exact k2
   ·exact h5.elim
  ·rename_i k n
   split at h5
   ·simp only [UJ]at l1 l3
    rw[l1,l3]
    simp only[vr]at N
    rcases N with ⟨g1,g2,g3⟩|⟨b,c,e',g1,g2,g3⟩
    ·rw [g3]
     subst g2
     dsimp only
     rw[iT]
     refine ej hc l2 h5 λb YX Yy h6=>?_
     have hb:b=0:=by
      by_cases e1:YC=none
      ·exact YX e1
      ·have:=Yy e1;omega
     subst hb
     rw[iT]
     exact hK0 _ _ (yb g1) h6
    ·rw [g2]
     dsimp only
     rw[iT]
     refine rY (x:=YC) (At:=n) g3 (ej hc l2 h5 λb' YX Yy h6=>?_)
     have eq:b'<=n:=by
      by_cases e1:YC=none
      ·have:=YX e1;omega
      ·exact Yy e1
     rw[iT]
     refine hK0 _ _ ?_ h6
     simp only[vr]
     refine .inr ⟨b,c,e',g1,?_,I⟩
     simp[hU.add]
   ·rename_i lo2
    rw[bk]at h5
    split at h5
    ·rename_i e2 q W ty2 hk
     cases hn:Nat.beq e2 esz with
     |false=>rw[hn]at h5;exact h5.elim
     |true=>
       rw[hn]at h5
       simp only[cond_true]at h5
       have:=G9 hn
       subst this
       simp only[UJ]at l3
       rw[l3]
       simp only[vr]at N
       rcases N with ⟨g1,g2,g3⟩|⟨b,c,e',g1,g2,g3⟩
       ·rw [g3]
        subst g2
        dsimp only
        rw[iT]
        refine ej hc l2 h5 λb YX Yy h6=>?_
        have hb:b=0:=by
         by_cases e1:YC=none
         ·exact YX e1
         ·have:=Yy e1;omega
        subst hb
        refine ej hc l1 h6 λa n9 f9 h7=>hK0 _ _ ?_ h7
        have ha:a=0:=by have:=f9 aD;omega
        subst ha
        simp only[vr]
        exact .inl ⟨g1,trivial,trivial,aD⟩
       ·rw [g2]
        dsimp only
        rw[iT]
        refine rY (x:=YC) (At:=n) g3 (ej hc l2 h5 λb' YX Yy h6=>?_)
        have eq:b'<=n:=by
         by_cases e1:YC=none
         ·have:=YX e1;omega
         ·exact Yy e1
        refine ej hc l1 h6 λa n9 f9 h7=>hK0 _ _ ?_ h7
        have ak:a<=b':=f9 aD
        have he:e'=e2:=by
         rcases hh.blk k _ hk with ⟨k1,_⟩|⟨b2,c2,az,k1,_⟩
         ·rw[g1]at k1;cases k1
         ·rw[g1]at k1;simp at k1;exact k1.2.2
        subst he
        simp only[vr]
        by_cases hm:c=a
        ·refine .inr ⟨b,c,e',0,g1,by rw[DL hm],⟨I,Ho _⟩,λh0=>by omega⟩
        ·refine .inr ⟨b,c,e',a*e',g1,by rw[Ck hm];simp[hU.add],⟨I,Hw _ I⟩,λ_=>rfl⟩
    ·exact h5.elim
   ·exact h5.elim
  ·rename_i k o n c
   simp only[vr]at N
   let ⟨b,c',e',g1,g2⟩:=N
   rw[g2]
   refine ej hc l3 h5 λm _ _ h6=>ej hc l2 h6 λb' _ _ h7=>ej hc l1 h7 λa _ _ h8=>hK0 _ _ ?_ h8
   simp only[vr]
   refine⟨b,c',e',g1,?_⟩
   unfold Rp
   by_cases hm:m=a
   ·subst hm;simp
   ·rw [Ck hm]
    have:Nat.beq m a=false:=by
     cases hb:Nat.beq m a with
     |false=>rfl
     |true=>exact(hm (G9 hb)).elim
    rw[this];simp[hU.add]
  ·split at h5
   ·simp only [UJ]at l3
    rw[l3]
    simp only[vr]at N
    rw[N]
    dsimp only
    rw[iT]
    refine ej hc l2 h5 λb YX Yy h6=>?_
    have hb:b=0:=by
     by_cases e1:YC=none
     ·exact YX e1
     ·have:=Yy e1;omega
    subst hb
    refine ej hc l1 h6 λa n9 f9 h7=>?_
    have ha:a=0:=by
     by_cases e1:lo'=none
     ·exact n9 e1
     ·have:=f9 e1;omega
    subst ha
    exact hK0 _ _ (by simp only[vr];rfl) h7
   ·exact h5.elim
  ·exact h5.elim
 case slA n esz x lo hi mx=>
  let ⟨u,N,Q⟩:=bJ XR hc hs
  let ⟨lo',l1,h3⟩:=kz XR hc Q
  let ⟨YC,l2,h4⟩:=kz XR hc h3
  let ⟨mx',l3,h5⟩:=kz XR hc h4
  split at h5
  ·rename_i k o
   simp only[vr]at N
   let ⟨b,c',e',g1,g2⟩:=N
   rw[g2]
   refine ej hc l3 h5 λm _ _ h6=>ej hc l2 h6 λb' _ _ h7=>ej hc l1 h7 λa _ _ h8=>hK0 _ _ ?_ h8
   simp only[vr]
   refine⟨b,c',e',g1,?_⟩
   unfold Rp
   by_cases hm:m=a
   ·subst hm;simp
   ·rw [Ck hm]
    have:Nat.beq m a=false:=by
     cases hb:Nat.beq m a with
     |false=>rfl
     |true=>exact(hm (G9 hb)).elim
    rw[this];simp[hU.add]
  ·exact h5.elim
 case slT x lo hi=>
  let ⟨u,N,Q⟩:=bJ XR hc hs
  let ⟨lo',l1,h3⟩:=kz XR hc Q
  let ⟨YC,l2,h4⟩:=kz XR hc h3
  split at h4
  ·simp only[vr]at N
   rw[N]
   exact ej hc l2 h4 λb' _ _ h7=>ej hc l1 h7 λa _ _ h8=>hK0 _ _ (by simp only[vr]) h8
  ·exact h4.elim
 case app ty esz bytes z s x=>
  let ⟨u,N,Q,qc⟩:=Bl hc (XR.arg s) hs
  let ⟨v,h3,h4⟩:=bJ XR hc Q
  cases hz:Nat.beq (bU z) esz with
  |false=>rw[hz]at h4;exact h4.elim
  |true=>
    rw[hz]at h4
    have hz:=G9 hz
    rw[bS]at hz
    refine f14 hh hp N h3 hz h4 λv h' ν' a lh' Yj g1 g2 g3 g4=>hK v h' ν' a lh' (λhm=>?_) (λe=>by cases e) g1 g2 g3 g4
    let ⟨l,q1,q2⟩:=ZU hm
    simp only[QL]at q1
    split at q1
    ·rename_i l0 p sa
     cases q1
     have:=qc _ _ sa
     subst this
     have a8:plA≠none:=by
      rcases hp with ⟨g,_⟩|⟨_,_,g⟩
      ·cases g
      ·rw[g];simp
     exact Yj a8 wn λl hn k hk=>q2 k (by rw[sa]at hn;cases hn;exact Mw _ hk)
    ·cases q1
 case mks ty n cs=>
  refine hplace (o:=.cells (cs.map EU) ty) (c:=0) (ez:=0) (F:=λb=>.slice (some (.l b 0)) n n) (λhm=>?_) rfl aD (λp b lh' hb ZD=>⟨b,0,0,cs,fU _ _ _,hb,oa cs⟩) hs (λp b h' lh' ZD hr Yc=>⟨_,?_,Yc⟩)
  ·let ⟨l,g,_⟩:=ZU hm;exact hplN g g
  ·simp only[vr];exact⟨b,0,0,fU _ _ _,rfl⟩
 case call f xs=>
  let ⟨us,N,Q⟩:=kF XR hc hs
  exact YK f us h K X4 ν nV nS _ lh KA N hh Q λv h' ν' a lh' hm=>hK v h' ν' a lh' (λh=>by let ⟨e1,e2,e3⟩:=hm h;subst e1 e2 e3;exact wK.refl _ _ _ _ _ _) (λe=>by cases e)
 case isn neg x=>
  let ⟨u,N,Q⟩:=bJ XR hc hs
  split at Q
  ·simp only[vr]at N;rw[N];exact hK0 _ _ (by simp only[vr];cases neg<;>rfl) Q
  ·simp only[vr]at N;let ⟨b,c,ez,g1,g2⟩:=N;rw[g2];exact hK0 _ _ (by simp only[vr];cases neg<;>rfl) Q
  ·simp only [vr]at N
   let ⟨p,c,ez,g1,g2,g3,g4,g5⟩:=N
   rw[g1]
   simp only[bM]at Q
   cases p with
   |none=>exact hK0 _ _ (by simp only[vr];cases neg<;>rfl) (Q.1 (by
      rename_i n f
      cases n with
      |zero=>rfl
      |succ n=>let ⟨X1,az,k1,_⟩:=g5 0 I;cases k1))
   |some p=>exact hK0 _ _ (by simp only[vr];cases neg<;>rfl) Q.2
  ·simp only[vr]at N
   simp only[bM]at Q
   rcases N with ⟨g1,g2,g3⟩|⟨b,c,e',g1,g2,_⟩
   ·rw[g3];exact hK0 _ _ (by simp only[vr];cases neg<;>rfl) (Q.1 g2)
   ·rw[g2];exact hK0 _ _ (by simp only[vr];cases neg<;>rfl) Q.2
  ·exact Q.elim
 case clr esz z x=>
  let ⟨u,N,Q⟩:=bJ XR hc hs
  split at Q
  ·rename_i k off n
   rw[bk]at Q
   split at Q
   ·rename_i e' n' f ty hk
    cases hb:(Nat.beq e' esz&&lY e' (z.map EU)) with
    |false=>rw[hb]at Q;exact Q.elim
    |true=>
      rw[hb]at Q
      simp only[cond_true,bM,IJ]at Q
      simp only[DD]at hb
      have:=G9 hb.1
      subst this
      let ⟨⟨a7,Y3⟩,h3⟩:=Q
      simp only[vr]at N
      rcases N with ⟨_,g2,_⟩|⟨b,c,e2,o,g1,g2,g3,g4⟩
      ·omega
      ·rw [g2,g4 a7]
       have he:e2=e':=by
        rcases hh.blk k _ hk with ⟨k1,_⟩|⟨b2,c2,az,k1,_⟩
        ·rw[g1]at k1;cases k1
        ·rw[g1]at k1;simp at k1;exact k1.2.2
       subst he
       let ⟨cs,q1,q2,q3⟩:=hzl (z:=z.map EU) (za:=z) hh hk g1 (oa z) hb.2 n Y3
       rw[gY]at h3
       refine⟨cs,ty,q1,I,q2,hK _ _ ν _ _ (λhm=>?_) (λe=>by cases e) (Nu.sub_refl ν) q3 (by simp only[vr,bp];exact⟨[],rfl,rfl⟩) h3⟩
       let ⟨l,q4,_⟩:=ZU hm
       cases q4
   ·exact Q.elim
  ·exact Q.elim
 case callv x xs=>
  let ⟨u,N,Q⟩:=bJ XR hc hs
  let ⟨us,h3,h4⟩:=kF XR hc Q
  split at h4
  ·simp only[vr]at N;let ⟨az,bs,g1,g2,g3⟩:=N;rw[g1]
   rw[kL,kL]at h4
   exact YK _ _ h K X4 ν nV nS _ lh KA (kk (kk g2 h3) g3) hh h4 λv h' ν' a lh' hm=>hK v h' ν' a lh' (λh=>by let ⟨e1,e2,e3⟩:=hm h;subst e1 e2 e3;exact wK.refl _ _ _ _ _ _) (λe=>by cases e)
  ·exact h4.elim
end
end Go.Dx
