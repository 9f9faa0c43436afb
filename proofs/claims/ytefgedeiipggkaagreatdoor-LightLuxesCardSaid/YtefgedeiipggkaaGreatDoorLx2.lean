/- Part 2 of a proof. No conditions. -/
import Derived.Test.YtefgedeiipggkaaGreatDoorLx1
import Derived.RangeFuncOwn
import Derived.RangeFuncNested
import Derived.Laws.Append
set_option maxRecDepth 100000
set_option linter.unusedVariables false
set_option linter.unusedSimpArgs false
namespace Go.Sx
inductive o3 where|op (o:ji)|yld (t:Nat) (dst:Option Nat) (xs:List gk)|yldG (d:Nat) (want:Bool) (t:Nat) (dst:Option Nat) (xs:List gk)
inductive jq where|skip|reg (ops:List o3)|draw (ds:List jd)|drawY (ds:List jd) (xs:List o3)|seq (a b:jq)|cond (c:gk) (a b:jq)|block (id:Nat) (b:jq)|loop (b:jq)|exit (id:Nat)|ret|scope (b:jq)
structure iU where
 f:FuncId
 ntmps:Nat
 body:jq
inductive hG where|skip|reg (ops:List ji)|draw (ds:List jd)|allo (t:OT)|alloq (t:OT)|seq (a b:hG)|cond (c:gk) (a b:hG)|block (id:Nat) (b:hG)|loop (b:hG)|exit (id:Nat)|ret|scope (b:hG)|range (g:gk) (ps:List Nat) (asg body:hG) (C3:List iU)
def um (o:Oper):Option (Nat×List gk) :=
 match o.guard,o.op with
 |none,.call c=>match c.callee with|.value (.tmp t)=>some (t,c.args.toList.map bj)|_=>none
 |_,_=>none
def rZ (ops:Array Oper) (o:Oper):Option (Nat×Bool×Nat×List gk) :=
 match o.guard,o.op with
 |some (j,want),.call c=>match c.callee,(ops[j]?).bind (·.dst) with|.value (.tmp t),some d=>some (d,want,t,c.args.toList.map bj)|_,_=>none
 |_,_=>none
def lk (P:Program) (Bs:List TypeId) (ops:Array Oper):List Oper->Option (List o3)
 |[]=>some []
 |o::l=>match lk P Bs ops l with
   |none=>none
   |some xs=>match um o with
     |some (t,az)=>some (.yld t o.dst az::xs)
     |none=>match rZ ops o with
       |some (d,want,t,az)=>some (.yldG d want t o.dst az::xs)
       |none=>match lU P Bs ops o with|some x=>some (.op x::xs)|none=>none
def y8 (ops:Array Oper):Nat->Nat->Array Bool->Bool
 |0,_,listed=>(Region.ready .any ops listed).isEmpty|f+1,k,listed=>Region.ready .any ops listed==[k]&&y8 ops f (k+1) (listed.setIfInBounds k true)
def xT (n y:Nat):Array Bool:=((List.range n).map λi=>Nat.blt i y).toArray
def GZ (ops:Array Oper):Bool:=(List.range ops.size).all λi=>match ops[i]? with
 |some o=>o.after.toList.all λe=>!Region.binds .any e||Nat.blt e.on i
 |none=>true
def PF (ops:Array Oper) (y:Nat):Bool:=((List.range y).all λj=>Er ops ops.size y j)&&(List.range ops.size).all λk=>Nat.ble k y||Er ops ops.size k y
def uJ (P:Program) (Bs:List TypeId) (ops:Array Oper) (y:Nat):Option (List jd×List o3) :=
 match fP P Bs ops (ops.toList.take y),lk P Bs ops (ops.toList.drop y) with
 | some xs,some C3=>if P.follows .mixedOrders&&su (ops.toList.take y).toArray (iJ (ops.toList.take y).toArray xs (cQ xs 0) xs 0)&&AW (ops.toList.take y).toArray (iJ (ops.toList.take y).toArray xs (cQ xs 0) xs 0).length 0 (Array.replicate ops.size false)&&(iJ (ops.toList.take y).toArray xs (cQ xs 0) xs 0).length==y&&Nat.ble y ops.size &&
    (iJ (ops.toList.take y).toArray xs (cQ xs 0) xs 0).all (λd=>IB d.o.op||d.ws.isEmpty)&&GZ ops&&PF ops y&&y8 ops (ops.size-y) y (xT ops.size y) then some (iJ (ops.toList.take y).toArray xs (cQ xs 0) xs 0,C3) else none
 |_,_=>none
def yam (ops:Array Oper):Option Nat:=ops.toList.findIdx? λo=>(um o).isSome||(rZ ops o).isSome
def kC (P:Program) (Bs:List TypeId):Code->Option jq
 |.skip=>some .skip|.label _=>some .skip|.region _ ops false=>(lk P Bs ops ops.toList).map .reg
 |.region _ ops true=>match yam ops with|none=>(sj P Bs ops).map .draw|some y=>(uJ P Bs ops y).map λp=>.drawY p.1 p.2
 |.seq a b=>match kC P Bs a,kC P Bs b with|some x,some y=>some (.seq x y)|_,_=>none
 |.cond c a b=>match kC P Bs a,kC P Bs b with|some x,some y=>some (.cond (bj c) x y)|_,_=>none
 |.block id b=>(kC P Bs b).map (.block id)|.loop b=>(kC P Bs b).map .loop|.exit id=>some (.exit id)|.ret=>some .ret|.scope b=>(kC P Bs b).map .scope|_=>none
def sG (P:Program) (Bs:List TypeId) (fn:Func):Option (Nat×jq) :=
 match fn.body,fn.results.toList with
 |some c,[]=>(kC P Bs c).map λx=>(fn.ntmps,x)
 |_,_=>none
def dE (P:Program) (Bs:List TypeId) (C3:List iU):Code->Option hG
 |.skip=>some .skip|.label _=>some .skip|.region _ ops false=>(fP P Bs ops ops.toList).map .reg
 |.region _ ops true=>match Ci P Bs ops with
   |some t=>some (.allo t)
   |none=>match uq P Bs ops with|some t=>some (.alloq t)|none=>(sj P Bs ops).map .draw
 |.seq a b=>match dE P Bs C3 a,dE P Bs C3 b with|some x,some y=>some (.seq x y)|_,_=>none
 |.cond c a b=>match dE P Bs C3 a,dE P Bs C3 b with|some x,some y=>some (.cond (bj c) x y)|_,_=>none
 |.block id b=>(dE P Bs C3 b).map (.block id)|.loop b=>(dE P Bs C3 b).map .loop|.exit id=>some (.exit id)|.ret=>some .ret|.scope b=>(dE P Bs C3 b).map .scope
 |.rangeFunc g ps a b=>match dE P Bs C3 a,dE P Bs C3 b with|some x,some y=>some (.range (bj g) ps.toList x y C3)|_,_=>none
 |_=>none
def vY (next:List ak->List ar->Prop) (Q2:Ex->List ak->List ar->Prop):Ex->List ak->List ar->Prop
 |.normal,sl,lh=>next sl lh
 |.exit i,sl,lh=>Q2 (.exit i) sl lh|.ret,sl,lh=>Q2 .ret sl lh
def xC (id:Nat) (Q2:Ex->List ak->List ar->Prop):Ex->List ak->List ar->Prop
 |.normal,sl,lh=>Q2 .normal sl lh|.exit i,sl,lh=>if i=id then Q2 .normal sl lh else Q2 (.exit i) sl lh
 |.ret,sl,lh=>Q2 .ret sl lh
def DR:List iU->FuncId->Option iU
 |[],_=>none|x::l,f=>if f=x.f then some x else DR l f
def ks (l:Nat):ak:=.raw (.func (.yield l) #[] #[])
def mz:List ak->List Nat->List ak->List ak
 |sl,p::ps,x::xs=>mz (sl.set p x) ps xs|sl,_,_=>sl
abbrev YH:=List ak->List ar->(Ex->List ar->Prop)->Prop
abbrev IQ:=Ex->List ak->List ar->Option Ex->Prop
def ZE (At:List ak->List ar->Option Ex->Prop) (sl:List ak) (d:Option Nat):Ex->List ar->Prop
 |.normal,lh=>At (fk sl d (.bool true)) lh none|x,lh=>At (fk sl d (.bool false)) lh (some x)
def cN (w0:World) (Q1:FuncId->ca) (l:Nat) (QY:YH):List o3->List ak->List ar->Option Ex->(List ak->List ar->Option Ex->Prop)->Prop
 |[],sl,lh,g,At=>At sl lh g|.op o::rest,sl,lh,g,At=>fF w0 Q1 [o] sl lh λsl lh=>cN w0 Q1 l QY rest sl lh g At
 |.yld t d xs::rest,sl,lh,g,At=>g=none/\sl.getD t .any=ks l/\QY (xs.map (arg sl)) lh (ZE (λsl lh g=>cN w0 Q1 l QY rest sl lh g At) sl d)
 |.yldG d want t dst xs::rest,sl,lh,g,At=>match sl.getD d .any with
   | .bool b=>(b=want->g=none/\(sl.set d (.bool want)).getD t .any=ks l/\QY (xs.map (arg (sl.set d (.bool want)))) lh (ZE (λsl lh g=>cN w0 Q1 l QY rest sl lh g At) (sl.set d (.bool want)) dst)) /\
      (b=!want->cN w0 Q1 l QY rest (fk (sl.set d (.bool (!want))) dst (.tup [])) lh g At)
   |.tup vs=>cN w0 Q1 l QY rest (fk (sl.set d (.tup vs)) dst (.tup [])) lh g At|.int ..=>cN w0 Q1 l QY rest (fk sl dst (.tup [])) lh g At|_=>False
def acv (next:List ak->List ar->Option Ex->Prop) (Q2:IQ):IQ
 |.normal,sl,lh,g=>next sl lh g
 |.exit i,sl,lh,g=>Q2 (.exit i) sl lh g|.ret,sl,lh,g=>Q2 .ret sl lh g
def xV (id:Nat) (Q2:IQ):IQ
 |.normal,sl,lh,g=>Q2 .normal sl lh g|.exit i,sl,lh,g=>if i=id then Q2 .normal sl lh g else Q2 (.exit i) sl lh g
 |.ret,sl,lh,g=>Q2 .ret sl lh g
def lX (w0:World) (Q1:FuncId->ca) (l:Nat) (QY:YH):jq->List ak->List ar->Option Ex->IQ->Prop
 |.skip,sl,lh,g,Q2=>Q2 .normal sl lh g|.reg ops,sl,lh,g,Q2=>cN w0 Q1 l QY ops sl lh g (Q2 .normal)|.draw ds,sl,lh,g,Q2=>ox w0 Q1 ds sl lh λsl lh=>Q2 .normal sl lh g
 |.drawY ds xs,sl,lh,g,Q2=>ox w0 Q1 ds sl lh λsl lh=>cN w0 Q1 l QY xs sl lh g (Q2 .normal)
 |.seq a b,sl,lh,g,Q2=>lX w0 Q1 l QY a sl lh g (acv (λsl lh g=>lX w0 Q1 l QY b sl lh g Q2) Q2)
 |.cond c a b,sl,lh,g,Q2=>match arg sl c with|.bool t=>(t=true->lX w0 Q1 l QY a sl lh g Q2)/\(t=false->lX w0 Q1 l QY b sl lh g Q2)|_=>False
 |.block id b,sl,lh,g,Q2=>lX w0 Q1 l QY b sl lh g (xV id Q2)
 | .loop b,sl,lh,g,Q2=>∃ (ι:Type) (shs:ι->List ak) (shl:ι->List ar) (shg:ι->Option Ex) (μ:ι->Nat) (i0:ι),sl=shs i0/\lh=shl i0/\g=shg i0 /\
    ∀i,lX w0 Q1 l QY b (shs i) (shl i) (shg i) (acv (λsl' lh' g'=>∃i',sl'=shs i'/\lh'=shl i'/\g'=shg i'/\μ i'<μ i) Q2)
 |.exit id,sl,lh,g,Q2=>Q2 (.exit id) sl lh g|.ret,sl,lh,g,Q2=>Q2 .ret sl lh g|.scope b,sl,lh,g,Q2=>lX w0 Q1 l QY b sl lh g Q2
def ao7 (Q2:Ex->List ak->List ar->Prop) (sl:List ak):IQ
 |.exit _,_,_,_=>False|_,_,lh,none=>Q2 .normal sl lh|_,_,lh,some x=>Q2 x sl lh
def cJ (w0:World) (Q1:FuncId->ca) (nb:Nat):hG->List ak->List ar->(Ex->List ak->List ar->Prop)->Prop
 |.skip,sl,lh,Q2=>Q2 .normal sl lh|.reg ops,sl,lh,Q2=>fF w0 Q1 ops sl lh (Q2 .normal)|.draw ds,sl,lh,Q2=>ox w0 Q1 ds sl lh (Q2 .normal)|.allo t,sl,lh,Q2=>qS w0 Q1 t sl lh (Q2 .normal)|.alloq t,sl,lh,Q2=>qS w0 (zA Q1) t sl lh (Q2 .normal)|.seq a b,sl,lh,Q2=>cJ w0 Q1 nb a sl lh (vY (λsl lh=>cJ w0 Q1 nb b sl lh Q2) Q2)
 |.cond c a b,sl,lh,Q2=>match arg sl c with|.bool t=>(t=true->cJ w0 Q1 nb a sl lh Q2)/\(t=false->cJ w0 Q1 nb b sl lh Q2)|_=>False
 |.block id b,sl,lh,Q2=>cJ w0 Q1 nb b sl lh (xC id Q2)
 | .loop b,sl,lh,Q2=>∃ (ι:Type) (shs:ι->List ak) (shl:ι->List ar) (μ:ι->Nat) (i0:ι),Sub nb sl lh (shs i0) (shl i0) /\
    ∀i,cJ w0 Q1 nb b (shs i) (shl i) (vY (λsl' lh'=>∃i',Sub nb sl' lh' (shs i') (shl i')/\μ i'<μ i) Q2)
 |.exit id,sl,lh,Q2=>Q2 (.exit id) sl lh|.ret,sl,lh,Q2=>Q2 .ret sl lh|.scope b,sl,lh,Q2=>cJ w0 Q1 nb b sl lh Q2
 |.range g ps asg body C3,sl,lh,Q2=>match arg sl g with
   |.fn (.func f) [] ys=>match DR C3 f with
     | some it=>∀ l,lX w0 Q1 l (λxs lh At=>xs.length=ps.length/\cJ w0 Q1 lh.length asg (mz sl ps xs) lh (vY (λsl lh'=>cJ w0 Q1 lh.length body sl lh' λx _ lh=>At x lh) λ_ _ _=>False)) it.body
        (ks l::ys++List.replicate (it.ntmps-(ys.length+1)) .any) lh none (ao7 Q2 sl)
     |none=>False
   |_=>False
def TI:Ex->Exit
 |.normal=>.normal|.exit i=>.exit i|.ret=>.ret
def kB (B:dP):List Deferred->World->Prop
 |[],_=>True|d::ds,w=>∃Bf,d={ target:=.collected Bf,args:=#[] }/\w.heap[Bf]? = some (.deferred (some []))/\(B.wf.heap.size<=Bf/\B.w0.heap.size<=Bf)/\(∀d'∈ds,d'.target≠.collected Bf)/\kB B ds w
theorem kB.keeps {B:dP} {w w':World} (hk:∀ (Bf:Nat) (o:Option (List Deferred)),w.heap[Bf]? = some (Obj.deferred o)->w'.heap[Bf]? = some (Obj.deferred o)):∀ {ds:List Deferred},kB B ds w->kB B ds w'
 |[],_=>trivial|_::_,⟨Bf,M,N,h3,h4,h5⟩=>⟨Bf,M,hk _ _ N,h3,h4,kB.keeps hk h5⟩
theorem kB.old {B:dP} {w:World} {Bf:Nat}:∀ {ds:List Deferred},kB B ds w->(∀ o:Option (List Deferred),w.heap[Bf]? ≠ some (Obj.deferred o))->∀ d'∈ds,d'.target≠.collected Bf
 |[],_,_,d',hd=>by cases hd
 |d::ds,⟨D',M,N,_,_,h4⟩,hn,d',hd=>by
   rcases List.mem_cons.1 hd with rfl|hd
   ·rw[M];intro e;cases e;exact hn _ N
   ·exact kB.old h4 hn d' hd
theorem pO {B:dP} {w w':World} (hk:KeepsOthers w w') {ds:List Deferred} (h:kB B ds w):kB B ds w':=h.keeps λBf _ hD=>hk.same Bf _ hD rfl
def SR (B:dP) (m:aN) (sl:List ak) (lh:List ar) (a:Act) (w:World):Prop:=aC m sl a.tmps.toList/\kB B a.defers w/\bh B m lh w
def dP.at (B:dP) (m:aN) (lh:List ar) (w:World) (ds:List Deferred):dP:=⟨B.w0,w,λb=>∃k cs ty,lh[k]? = some (.cells cs ty)/\m k=some b,ds⟩
theorem bh.rebase {B:dP} {m:aN} {lh:List ar} {w:World} (h:bh B m lh w) (ds:List Deferred):bh (B.at m lh w ds) m lh w :=
 ⟨rfl,rfl,rfl,h.size,h.old,D7 _,λ_ _ _=>rfl,λk cs ty hk=>let ⟨b,vs,M,N,h3,h4,_⟩:=h.loc k cs ty hk;⟨b,vs,M,N,h3,h4,.inr ⟨k,cs,ty,hk,M⟩⟩,h.inj,h.dom,h.dead,h.rng⟩
theorem bh.withDs {B:dP} {m:aN} {lh:List ar} {w:World} (h:bh B m lh w) (ds:List Deferred):bh { B with ds:=ds } m lh w :=
 ⟨h.os,h.tape,h.output,h.size,h.old,h.fsize,h.kept,h.loc,h.inj,h.dom,h.dead,h.rng⟩
theorem bh.noDs {B:dP} {m:aN} {lh:List ar} {w:World} {ds:List Deferred} (h:bh { B with ds:=ds } m lh w):bh B m lh w :=
 ⟨h.os,h.tape,h.output,h.size,h.old,h.fsize,h.kept,h.loc,h.inj,h.dom,h.dead,h.rng⟩
theorem bh.unbase {B:dP} {m m':aN} {lh lh':List ar} {w w':World} {ds:List Deferred} (h:bh B m lh w) (h':bh (B.at m lh w ds) m' lh' w'):bh B m' lh' w'/\KeepsOthers w w':=by
 have hown:∀ b,(∃ k cs ty,lh[k]? = some (.cells cs ty)/\m k=some b)->B.wf.heap.size<=b∨B.own b:=λb ⟨k,cs,ty,M,N⟩=>by
  let ⟨b',vs,g1,_,_,_,g2⟩:=h.loc k cs ty M
  rw[N]at g1;cases g1;exact g2
 refine⟨⟨h'.os.trans h.os,h'.tape.trans h.tape,h'.output.trans h.output,h'.size,h'.old,Eg h.fsize h'.fsize,λb hb ho=>?_,λk cs ty hk=>?_,h'.inj,h'.dom,h'.dead,h'.rng⟩,⟨h'.fsize,λk o hk ho=>?_⟩⟩
 ·rw[h'.kept b (Fj hb h.fsize) (λhn=>by rcases hown b hn with M|M;exact absurd hb K;exact ho M)];exact h.kept b hb ho
 ·let ⟨b,vs,M,N,h3,h4,h5⟩:=h'.loc k cs ty hk
  refine⟨b,vs,M,N,h3,h4,?_⟩;rcases h5 with h5|h5
  ·exact .inl (Eg h.fsize h5)
  ·exact hown b h5
 ·refine(h'.kept k (Array.getElem?_eq_some_iff.1 hk).1 (λ⟨k',cs,ty,M,N⟩=>?_)).trans hk
  let ⟨b',vs,g1,_,g3,_⟩:=h.loc k' cs ty M
  rw[N]at g1;cases g1;rw[hk]at g3;cases g3;cases ho
def QC (B:dP) (nb:Nat) (lh0:List ar) (m0:aN) (w1:World) (Q2:Ex->List ak->List ar->Prop) (e:Exit) (a:Act) (w:World):Prop :=
 ∃x sl lh m,e=TI x/\SR B m sl lh a w/\o5 nb lh0 m0 lh m/\KeepsOthers w1 w/\Q2 x sl lh
section
variable {P:Program} {B:dP} {Q1:FuncId->ca} {Bs:List TypeId} {F:Fence} {n nb:Nat}
theorem QC.of {lh0:List ar} {m0:aN} {lh:List ar} {m:aN} {w0 w1:World} {Q2 Q':Ex->List ak->List ar->Prop} {e:Exit} {a:Act} {w:World} (he:o5 nb lh0 m0 lh m) (hk:KeepsOthers w0 w1) (hq:∀ x sl lh,Q2 x sl lh->Q' x sl lh)
 (h:QC B nb lh m w1 Q2 e a w):QC B nb lh0 m0 w0 Q' e a w:=by
 let ⟨x,sl,lh',m',M,N,h3,h4,h5⟩:=h
 exact⟨x,sl,lh',m',M,N,he.trans h3,hk.trans h4,hq _ _ _ h5⟩
theorem he3 {c:Code} {Q2:Exit->Act->World->Prop} {a:Act} {w:World} (hQ:∀ l a w,¬ Q2 (.goto l) a w) (h:c.wpIn F n P Q2 a w):(Code.scope c).wpIn F n P Q2 a w:=by
 intro b k cs Wo hb hr;have h0:(lone (b.atR a (.code (.scope c)::k)) cs w).fenced P F:=fenced_calm hb hr rfl;have hstep:∀{a:Act} {w:World},step P (lone (b.atR a (.code (.scope c)::k)) cs w)=.next (lone (b.atR a (.code c::.inScope c::k)) cs w):=λ{a w}=>step_lone_go (by simp[stepG,stepG.exec,Frame.atR]);have hend:∀{a:Act} {w:World},step P (lone (b.atR a (.inScope c::k)) cs w)=.next (lone (b.atR a k) cs w):=λ{a w}=>step_lone_go (by simp[stepG,stepG.exec,Frame.atR])
 let ⟨e,a₁,w₁,hq,harr⟩:=h b (.inScope c::k) cs Wo hb hr
 have hx:∀id,exitTo id (.inScope c::k)=exitTo id k:=λid=>by simp[exitTo]
 cases e with
 |normal=>exact⟨.normal,a₁,w₁,hq,.head h0 hstep (StepsIn.trans harr (.one (fenced_calm hb hr rfl) hend))⟩
 |exit id=>exact⟨.exit id,a₁,w₁,hq,λk' hk=>.head h0 hstep (harr.1 k' (by rw[hx];exact hk)),λVm hk=>let ⟨nza2,g1,g2⟩:=harr.2 Vm (by rw[hx];exact hk);⟨nza2,g1,.head h0 hstep g2⟩⟩
 |goto l=>exact(hQ l _ _ hq).elim|ret=>exact⟨_,a₁,w₁,hq,.of_steps (.one h0 hstep) harr⟩|panic ybc=>exact⟨_,a₁,w₁,hq,.of_steps (.one h0 hstep) harr⟩|outgrown=>exact⟨_,a₁,w₁,hq,.of_steps (.one h0 hstep) harr⟩
theorem hev {c:Code} {Q2:Exit->Act->World->Prop} {a:Act} {w:World} (SK:Nat->Act->World->Prop) (ny10:∃ k,SK k a w)
 (round:∀k a w,SK k a w->c.wpIn F n P (Exit.then (λa' w'=>∃k',k'<k/\SK k' a' w') Q2) a w):(Code.loop c).wpIn F n P Q2 a w:=by
 intro b k cs Wo hb hr;have key:∀ j a w,SK j a w->∃ e a' w',Q2 e a' w'/\ArrivesIn (Machine.fenced P F) P (lone (b.atR a (.code c::.inLoop c::k)) cs w) b k cs e a' w':=by
  intro j;induction j using Nat.strongRecOn with
  |_ j ih=>
    intro a w hI
    let ⟨e,a₁,w₁,hq,harr⟩:=round j a w hI b (.inLoop c::k) cs Wo hb hr
    cases e with
    |normal=>
      let ⟨k',Q7,hI₁⟩:=hq
      let ⟨ybk,yba,vrel,izb7,harr₂⟩:=ih k' Q7 a₁ w₁ hI₁
      exact⟨ybk,yba,vrel,izb7,.of_steps (StepsIn.trans harr (.one (fenced_calm hb hr rfl) stepR_inLoop)) harr₂⟩
    |exit id=>exact⟨_,a₁,w₁,hq,.pass (x:=.inLoop c) rfl (λ_ _=>.inl au) harr⟩|goto l=>exact⟨_,a₁,w₁,hq,.pass (x:=.inLoop c) rfl (λ_ _=>.inl au) harr⟩|ret=>exact⟨_,a₁,w₁,hq,.pass (x:=.inLoop c) rfl (λ_ _=>.inl au) harr⟩|panic ybc=>exact⟨_,a₁,w₁,hq,.pass (x:=.inLoop c) rfl (λ_ _=>.inl au) harr⟩|outgrown=>exact⟨_,a₁,w₁,hq,.pass (x:=.inLoop c) rfl (λ_ _=>.inl au) harr⟩
 let ⟨k0,h0⟩:=ny10
 let ⟨e,a',w',hq,harr⟩:=key k0 a w h0
 exact⟨e,a',w',hq,.of_steps (.one (fenced_calm hb hr rfl) stepR_loop) harr⟩
def It:Ex->Code
 |.normal=>.skip|.exit i=>.exit i|.ret=>.ret
def Ie:Ex->Option Ex
 |.normal=>none|x=>some x
structure KB (l:Nat) (QW W':World):Prop where
 size:QW.heap.size<=W'.heap.size
 same:∀(k:Nat) (o:Obj),k≠l->QW.heap[k]? = some o->o.isCells=false->W'.heap[k]? = some o
theorem KB.refl (l:Nat) (QW:World):KB l QW QW:=⟨D7 _,λ_ _ _ h _=>h⟩
theorem KB.keeps {l:Nat} {Qa QW W':World} (h:KB l Qa QW) (k:KeepsOthers QW W'):KB l Qa W':=⟨Eg h.size k.size,λi o hi ho hc=>k.same i o (h.same i o hi ho hc) hc⟩
theorem KB.put {l:Nat} {Qa QW:World} (h:KB l Qa QW) (o:Obj):KB l Qa (QW.putObj l o):=⟨by simpa using h.size,λi o' hi ho hc=>(World.putObj_heap_other hi).trans (h.same i o' hi ho hc)⟩
def JC (l:Nat) (rec:LoopState->Option Code->Loop) (g:Option Ex) (w:World):Prop:=w.heap[l]? = some (.loop (rec (if g.isNone then .ready else .done) (g.map It)))
theorem bh.putObj {m:aN} {lh:List ar} {w:World} (h:bh B m lh w) {l:Nat} {o:Obj} (hl:w.heap[l]? = some o) (ho:o.isCells=false) (hf:B.wf.heap.size<=l) (h0:B.w0.heap.size<=l) (o':Obj):bh B m lh (w.putObj l o'):=by
 refine⟨h.os,h.tape,h.output,by simpa using h.size,λb hb=>(World.putObj_heap_other K).trans (h.old b hb),by simpa using h.fsize,λb hb ho=>(World.putObj_heap_other K).trans (h.kept b hb ho),λk cs ty hk=>?_,h.inj,h.dom,h.dead,λk b hk=>by simpa using h.rng k b hk⟩
 let ⟨b,vs,M,N,h3,h4,h5⟩:=h.loc k cs ty hk
 refine⟨b,vs,M,N,(World.putObj_heap_other (λe=>?_)).trans h3,h4,h5⟩;subst e;rw[hl]at h3;cases h3;cases ho
theorem acJ {lh lh':List ar} {m m':aN} {w:World} (h:bh B m lh w) (he:o5 lh.length lh m lh' m'):jx lh m lh' m':=by
 refine⟨λk b hk=>he.1 k b ?_ hk,λk hk=>he.2 k (List.getElem?_eq_some_iff.1 hk).1 hk⟩;rcases Fa k lh.length with Q7|TM
 ·exact Q7
 ·rw[h.dom k TM]at hk;cases hk
structure IR (B:dP) (l:Nat) (rec:LoopState->Option Code->Loop) (W1:World) (lh0:List ar) (m0:aN) (m:aN) (sl:List ak) (lh:List ar) (g:Option Ex) (a:Act) (w:World):Prop where
 vs:aC m sl a.tmps.toList
 df:a.defers=[]
 hh:bh B m lh w
 ext:jx lh0 m0 lh m
 rc:JC l rec g w
 kb:KB l W1 w
def YS (B:dP) (F:Fence) (n:Nat) (P:Program) (l:Nat) (rec:LoopState->Option Code->Loop) (W1:World) (lh0:List ar) (m0:aN) (QY:YH):Prop :=
 ∀ (m:aN) (lh:List ar) (w:World) (args:List ak) (vs:List Value) (At:Ex->List ar->Prop),bh B m lh w->jx lh0 m0 lh m->JC l rec none w->KB l W1 w->aC m args vs->QY args lh At ->
  ∃fn tmps asg body,(Instr.yield l vs.toArray).run P w=.ok (.round l fn tmps asg body) w/\RoundIn F (n-1) P l fn tmps asg body w λe w'=>∃x m' lh',e=.returned (.bool (Ie x).isNone)/\bh B m' lh' w'/\jx lh m lh' m'/\JC l rec (Ie x) w'/\KB l W1 w'/\At x lh'
section it
variable {l:Nat} {rec:LoopState->Option Code->Loop} {W1:World} {lh0:List ar} {m0:aN} {QY:YH}
def QI (B:dP) (l:Nat) (rec:LoopState->Option Code->Loop) (W1:World) (lh0:List ar) (m0:aN) (Q2:IQ) (e:Exit) (a:Act) (w:World):Prop :=
 ∃x sl lh m g,e=TI x/\IR B l rec W1 lh0 m0 m sl lh g a w/\Q2 x sl lh g
theorem IR.step {m m':aN} {sl sl':List ak} {lh lh':List ar} {g:Option Ex} {a a':Act} {w w':World} (h:IR B l rec W1 lh0 m0 m sl lh g a w) (hs:kl (B.at m lh w []) m' sl' lh' a' w') (he:jx lh m lh' m'):IR B l rec W1 lh0 m0 m' sl' lh' g a' w':=by
 let ⟨M,N⟩:=h.hh.unbase hs.2.2
 exact⟨hs.1,hs.2.1,M,h.ext.trans he,N.same _ _ h.rc rfl,h.kb.keeps N⟩
theorem hj' (hF:lD F) (hY:YS B F n P l rec W1 lh0 m0 QY) {Q2:Exit->Act->World->Prop} {next:Act->World->Prop} {o:Oper} {c:Call} {t:Nat} {sl:List ak} {lh:List ar} {m:aN} {a:Act} {w:World} {At:Ex->List ar->Prop}
 (hs:IR B l rec W1 lh0 m0 m sl lh none a w) (TB:sl.getD t .any=ks l) (hv:QY ((c.args.toList.map bj).map (arg sl)) lh At) (ho:o.op=.call c) (hcal:c.callee=.value (.tmp t))
 (ih:∀x lh' m' a' w',IR B l rec W1 lh0 m0 m' (fk sl o.dst (.bool (Ie x).isNone)) lh' (Ie x) a' w'->At x lh'->next a' w'):o.wpIn F n P a w next Q2:=by
 refine⟨λf _=>hF.fn f,?_⟩;have hsem:o.semAt F.round a.eval=execOp a.eval o:=by
  unfold Oper.semAt;split
  ·rename_i UX;rw[ho]at UX;cases UX
  ·rfl
 have io14:a.eval (.tmp t)=.func (.yield l) #[] #[]:=by have:=oE hs.vs t undef;rw[TB]at this;simp[ks,C5]at this;simpa[Act.eval] using this
 let ⟨fn,tmps,asg,body,hrun,hround⟩:=hY m lh w _ _ _ hs.hh hs.ext hs.rc hs.kb (iw hs.vs c.args.toList) hv
 have hexec:(execOp a.eval o).run P w=.ok (.round l fn tmps asg body) w:=by
  simp only[execOp,ho];rw[af (a:={ target:=.fn (.yield l) #[],args:=#[]++c.args.map a.eval }) (w':=w) (by simp only[resolve,hcal,io14];rfl)];simp only[invoke];have:#[]++c.args.map a.eval++#[]=(c.args.toList.map a.eval).toArray:=by apply Array.toList_inj.1;simp
  first
   |(rw[this];exact hrun)
   | (have e2:#[]++c.args.map a.eval=(c.args.toList.map a.eval).toArray:=by
       apply Array.toList_inj.1;simp
      rw[e2];exact hrun)
 rw[hsem,hexec,Oper.uponIn_round];refine⟨λe=>(by rw[hF.depth]at e;cases e),hround.mono λe w' ⟨x,m',lh',he,g1,g2,g3,g4,g5⟩=>?_⟩;subst he;have hp:∀ b,IR B l rec W1 lh0 m0 m' (fk sl o.dst (.bool b)) lh' (Ie x) (a.put o.dst (.bool b)) w':=λb=>by
  refine⟨?_,by cases o.dst<;>exact hs.df,g1,hs.ext.trans g2,g3,g4⟩;rw[aaJ];cases o.dst with
  |none=>exact db g2.1 _ _ hs.vs|some d=>exact lc d (db g2.1 _ _ hs.vs) (by simp[C5])
 refine ih x lh' m' _ w' ?_ g5;exact hp _
theorem mV {ops:Array Oper} (hF:lD F) (hS:∀ f,(Q1 f).Ok P f) (hE:∀ t∈Bs,dM P t) (hY:YS B F n P l rec W1 lh0 m0 QY) {Q2:Exit->Act->World->Prop}:∀ (os:List Oper) (xs:List o3) (k:Nat) (sl:List ak) (lh:List ar) (m:aN) (g:Option Ex) (a:Act) (w:World) (At:List ak->List ar->Option Ex->Prop),
 (∀j,os[j]? = ops[k+j]?)->lk P Bs ops os=some xs->cN B.w0 Q1 l QY xs sl lh g At->IR B l rec W1 lh0 m0 m sl lh g a w ->
 (∀sl' lh' m' g' a' w',IR B l rec W1 lh0 m0 m' sl' lh' g' a' w'->At sl' lh' g'->Q2 .normal a' w')->wpOpsIn F n P ops Q2 (List.range' k os.length) a w
 |[],xs,k,sl,lh,m,g,a,w,At,_,hc,hv,hs,hQ=>by simp[lk,DJ]at hc;subst hc;exact hQ _ _ _ _ _ _ hs hv
 |o::os,xs,k,sl,lh,m,g,a,w,At,hl,hc,hv,hs,hQ=>by
   have h0:ops[k]? = some o:=by simpa using(hl 0).symm
   have Ro:∀j,os[j]? = ops[k+1+j]? := λj=>by have:=hl (j+1);simpa[I5,Ja 1 j] using this
   simp[lk]at hc;split at hc
   ·cases hc
   ·rename_i xs' T2
    have ih:=λSi lh1 m1 g1 a1 w1 hv hs=>mV hF hS hE hY os xs' (k+1) Si lh1 m1 g1 a1 w1 At Ro T2 hv hs hQ;split at hc
    ·rename_i t az hy
     cases hc;simp[cN]at hv;obtain⟨rfl,TB,hv⟩:=hv;unfold um at hy;split at hy
     ·rename_i c hg ho
      split at hy
      ·rename_i t hcal;cases hy;simp[EO,Ii,wpOpsIn,h0];rw[CV (by simp[Region.wanted,hg])];exact hj' hF hY hs TB hv ho hcal λx lh' m' a' w' M N=>by cases x<;>exact ih _ _ _ _ _ _ N M
      ·cases hy
     ·cases hy
    ·split at hc
     ·rename_i d want t az hy
      cases hc;simp[cN]at hv;unfold rZ at hy;split at hy
      ·rename_i j nzb24 c hg ho
       split at hy
       ·rename_i t2 d2 hcal hd
        cases hy;simp[EO,Ii,wpOpsIn,h0];have Uy:kl (B.at m lh w []) m sl lh a w:=⟨hs.vs,hs.df,hs.hh.rebase []⟩
        let ⟨y1,y2,y3⟩:=sc (ops:=ops) hs.vs hd
        split at hv
        ·rename_i b hb
         have hyb:=y1 b hb;have S0:=hs.step (ga Uy hb) (jx.refl _ _);by_cases WI:b=want
         ·subst WI;obtain⟨rfl,TB,hv⟩:=hv.1 rfl;rw[CV (by simp[Region.wanted,hg,hyb])];exact hj' hF hY S0 TB hv ho hcal λx lh' m' a' w' M N=>by cases x<;>exact ih _ _ _ _ _ _ N M
         ·have WH:b=!want:=by cases b<;>cases want<;>simp_all
          rw[C4 (by simp[Region.wanted,hg,hyb,WI])];refine⟨λf _=>hF.fn f,?_⟩;have hsr':=ga Uy hb;rw[WH]at hsr';exact ih _ _ _ _ _ _ (hv.2 WH) (hs.step (hsr'.put (aN.le_refl m) (hs.hh.rebase []) o.dst (by simp[C5,aC,undef])) (jx.refl _ _))
        ·rename_i vs hb;rw[C4 (by simp[Region.wanted,hg,y2 _ hb])];refine⟨λf _=>hF.fn f,?_⟩;exact ih _ _ _ _ _ _ hv (hs.step ((ga Uy hb).put (aN.le_refl m) (hs.hh.rebase []) o.dst (by simp[C5,aC,undef])) (jx.refl _ _))
        ·rename_i hb;rw[C4 (by simp[Region.wanted,hg,y3 _ _ hb])];refine⟨λf _=>hF.fn f,?_⟩;exact ih _ _ _ _ _ _ hv (hs.step (Uy.put (aN.le_refl m) (hs.hh.rebase []) o.dst (by simp[C5,aC,undef])) (jx.refl _ _))
        ·exact hv.elim
       ·cases hy
      ·cases hy
     split at hc
     ·rename_i x hx
      cases hc;simp[cN]at hv;have iw13:∀ j,j<[o].length->[o][j]? = ops[k+j]? := λj hj=>by
       obtain rfl:j=0:=by simpa using hj
       simpa using hl 0
      have:=pZ (n:=n) (ops:=ops) (B:=B.at m lh w []) (Q2:=Q2) hF (λf=>(hS f).sound) hE (List.range' (k+1) os.length) [o] [x] k sl lh m a w _ iw13 (by simp[fP,hx]) hv ⟨hs.vs,hs.df,hs.hh.rebase []⟩ (λsl' lh' m' a' w' M N h3=>ih _ _ _ _ _ _ h3 (hs.step M N));simpa[Ii] using this
     ·cases hc
theorem his {ops:Array Oper} {Q2:Exit->Act->World->Prop}:∀ (f k fuel:Nat) (listed:Array Bool) (a:Act) (w:World),f<=fuel->y8 ops f k listed=true->wpOpsIn F n P ops Q2 (List.range' k f) a w->wpAnyIn F n P .any ops Q2 fuel listed a w
 |0,k,fuel,listed,a,w,_,ht,h=>by
   have hr:Region.ready .any ops listed=[]:=by simpa[y8] using ht
   cases fuel with
   |zero=>exact⟨hr,h⟩|succ fuel=>exact⟨λ_=>h,λi hi=>by rw[hr]at hi;cases hi⟩
 |f+1,k,0,listed,a,w,hf,_,_=>by omega
 |f+1,k,fuel+1,listed,a,w,hf,ht,h=>by
   simp[y8,D2,Ek]at ht;refine⟨λe=>(by rw[ht.1]at e;cases e),λi hi=>?_⟩;rw[ht.1]at hi;obtain rfl:i=k:=by simpa using hi
   simp[Ii,wpOpsIn_cons]at h;exact wpOpIn_mono (λa w h=>his f (i+1) fuel _ a w K ht.2 h) h
theorem AM {n y:Nat} {Qu:Array Bool} (hs:Qu.size=n) (M:∀ i,i<y->Qu.getD i false=true) (N:∀ i,y<=i->Qu.getD i false=false):Qu=xT n y:=by
 apply Array.ext
 ·simp[xT,hs]
 ·intro i hi Rn
  have e:Qu.getD i false=Qu[i]:=by simp[hi]
  simp[xT,List.getElem_toArray,List.getElem_map,List.getElem_range];rw[← e];by_cases hy:i<y
  ·rw[M i hy];simp[Nat.blt_eq,hy]
  ·rw[N i K];cases hb:Nat.blt i y with|false=>rfl|true=>exact(hy (by simpa[Nat.blt_eq] using hb)).elim
theorem hi' {ops:Array Oper} (hb:GZ ops=true) {y:Nat} (hy:y<=ops.size) {Qu:Array Bool} (hs:Qu.size=ops.size) (hr:Region.ready .any (ops.toList.take y).toArray Qu=[]):∀ i,i<y->Qu.getD i false=true:=by
 intro i;induction i using Nat.strongRecOn with
 |ind i ih=>
   intro hi;apply Classical.byContradiction;intro Rw;have Q7:i<ops.size:=by omega
   have hm:i∈Region.ready .any (ops.toList.take y).toArray Qu:=by
    refine mem_ready.2 ⟨?_,ops[i],?_,λe he hbe=>?_⟩
    ·have:i<Qu.size:=by omega
     simp[OP,Kq this,K7]at Rw ⊢;simpa using Rw
    ·simp[hi,Q7]
    ·have M:=List.all_eq_true.1 hb i (by simpa using Q7)
     rw[Kq Q7]at M;have N:=List.all_eq_true.1 M e (by simpa using he);rw[hbe]at N;have h3:e.on<i:=by simpa[Nat.blt_eq] using N
     exact ih e.on h3 K
   rw[hr]at hm;cases hm
theorem hm1 {ops:Array Oper} (hF:lD F) (hS:∀ f,(Q1 f).Ok P f) (hE:∀ t∈Bs,dM P t) {y H:Nat} {B:dP} {ds:List jd} {Ws:List (List Nat)} {xs:List ji} (hc:fP P Bs ops (ops.toList.take y)=some xs) (hd:∀ j:Nat,ds[j]?.map jd.o=xs[j]?)
 (hb:GZ ops=true) (hdep:PF ops y=true) (hy:y<=ops.size) {At:List ak->List ar->Prop} {Q2:Exit->Act->World->Prop} {lh0:List ar} {m0:aN} {r:Nat}
 (hQ:∀sl' lh' m' a' w' fuel,kl B m' sl' lh' a' w'->jx lh0 m0 lh' m'->At sl' lh'->r<=fuel->wpAnyIn F n P .any ops Q2 fuel (xT ops.size y) a' w') :
 ∀(fuel:Nat) (listed:Array Bool) (sl:List ak) (lh:List ar) (m:aN) (a:Act) (w:World),listed.size=ops.size->(∀i,y<=i->listed.getD i false=false)->gC ops listed->kl B m sl lh a w->jx lh0 m0 lh m->GN B.w0 Q1 (ops.toList.take y).toArray ds Ws H At fuel listed sl lh->wpAnyIn F n P .any ops Q2 (fuel+r) listed a w:=by
 intro fuel;induction fuel with
 |zero=>intro listed sl lh m a w RI hl Ri hs he h;rw[AM RI (hi' hb hy RI h.1) hl];exact hQ _ _ _ _ _ _ hs he h.2 K
 |succ fuel ih=>
   intro listed sl lh m a w RI hl Ri hs he h;by_cases hr:Region.ready .any (ops.toList.take y).toArray listed=[]
   ·rw[AM RI (hi' hb hy RI hr) hl];exact hQ _ _ _ _ _ _ hs he (h.1 hr) K
   ·let ⟨j,hj⟩:=List.exists_mem_of_ne_nil _ hr
    let ⟨rj,oj,VH,ix14⟩:=mem_ready.1 hj
    have hget:∀ i o,(ops.toList.take y).toArray[i]? = some o->i<y/\ops[i]? = some o:=λi o hi=>by
     simp only[K1,En]at hi;split at hi
     ·rename_i Q7;exact⟨Q7,by simpa using hi⟩
     ·cases hi
    let ⟨iy16,hoj'⟩:=hget j oj VH
    have iy13:listed.getD j false=false:=by
     have:j<listed.size:=by rw[RI];exact(Array.getElem?_eq_some_iff.1 hoj').1
     simp[OP,Kq this,K7]at rj ⊢;exact rj
    have Ru:∀ i,i∈Region.ready .any ops listed->i<y/\i∈Region.ready .any (ops.toList.take y).toArray listed:=λi hi=>by
     let ⟨ip13,oi,Ts,qW⟩:=mem_ready.1 hi
     unfold PF at hdep;simp only[D2]at hdep;have Q7:i<y:=by
      apply Classical.byContradiction;intro TM;by_cases e:i=y
      ·subst e;have:=fM Ri ops.size i oi Ts qW (List.all_eq_true.1 hdep.1 j (by simpa using iy16));rw[iy13]at this;cases this
      ·have M:=List.all_eq_true.1 hdep.2 i (by simpa using(Array.getElem?_eq_some_iff.1 Ts).1)
       have N:Nat.ble i y=false:=by
        cases hb:Nat.ble i y with
        |false=>rfl|true=>have:=Dc hb;omega
       rw[N,Bool.false_or]at M;have:=fM Ri ops.size i oi Ts qW M;rw[hl y (D7 _)]at this;cases this
     exact⟨Q7,mem_ready.2 ⟨ip13,oi,by simpa[En,Q7] using Ts,qW⟩⟩
    rw[show fuel+1+r=(fuel+r)+1 by omega];refine⟨λe=>?_,λi hi=>?_⟩
    ·have hm:j∈Region.ready .any ops listed:=mem_ready.2 ⟨rj,oj,hoj',ix14⟩;have e':Region.ready .any ops listed=[]:=e;rw[e']at hm;cases hm
    ·have Rn:i∈Region.ready .any ops listed:=hi
     let ⟨iu12,rb⟩:=Ru i Rn
     have N:=h.2 i rb
     let ⟨_,o,ho,_⟩:=mem_ready.1 Rn
     let ⟨x,hx,Uu⟩:=ms (ops.toList.take y) xs i o hc (by simpa[En,iu12] using ho)
     have SH:=hd i;rw[hx]at SH;simp[DZ]at SH
     let ⟨d,Tp,Tq⟩:=SH
     unfold EW at N;simp[Tp]at N;rw[Tq]at N;exact AB hF hS hE ho Uu hs N λsl' lh' m' a' w' h3 h4 h5=>ih _ sl' lh' m' a' w' (by simpa using RI) (λk hk=>by rw[getD_set_ne false K];exact hl k hk) (fS Ri Rn) h3 (he.trans h4) h5
theorem R1260 {ops:Array Oper} (hF:lD F) (hS:∀ f,(Q1 f).Ok P f) (hE:∀ t∈Bs,dM P t) (hY:YS B F n P l rec W1 lh0 m0 QY) {y id:Nat} {ds:List jd} {C3:List o3} (hc:uJ P Bs ops y=some (ds,C3)) {sl:List ak} {lh:List ar} {m:aN} {g:Option Ex} {a:Act} {w:World} {Q2:IQ}
 (hs:IR B l rec W1 lh0 m0 m sl lh g a w) (hv:ox B.w0 Q1 ds sl lh λsl lh=>cN B.w0 Q1 l QY C3 sl lh g (Q2 .normal)):(Code.region id ops true).wpIn F n P (QI B l rec W1 lh0 m0 Q2) a w:=by
 unfold uJ at hc;split at hc
 ·rename_i xs its' T2 hits
  split at hc
  ·rename_i hcond
   cases hc;simp only[D2,Ek]at hcond
   let ⟨⟨⟨⟨⟨⟨⟨⟨M,N⟩,h3⟩,h4⟩,h5⟩,h6⟩,h7⟩,h8⟩,h9⟩:=hcond
   have h5':=Dc h5;have hA:(ops.toList.take y).toArray.size=y:=by simp;omega
   let ⟨hw,ht⟩:=hv
   have U7:Ln (iJ (ops.toList.take y).toArray xs (cQ xs 0) xs 0) (mB B.w0 lh sl lh.length (iJ (ops.toList.take y).toArray xs (cQ xs 0) xs 0)):=λi d hd=>by
    refine⟨λYM=>?_,?_⟩
    ·unfold Dl;rw[qx,hd];have:=List.all_eq_true.1 h6 d (JG hd);simp[YM]at this;simp[this,ve]
    ·have:=pz (ds:=iJ (ops.toList.take y).toArray xs (cQ xs 0) xs 0) (iJ (ops.toList.take y).toArray xs (cQ xs 0) xs 0) 0 (λj=>by simp) hw i d (by simpa using hd);simpa using this
   generalize mB B.w0 lh sl lh.length (iJ (ops.toList.take y).toArray xs (cQ xs 0) xs 0)=Ws at hw ht U7;refine wpIn_region_any M ?_;have Ri:∀os:Array Oper,gC os (Array.replicate ops.size false):=λos k o hk=>by simp[Jz]at hk;split at hk<;>simp at hk
   have hany:=oz hS U7 N (h4.trans hA.symm) (iJ (ops.toList.take y).toArray xs (cQ xs 0) xs 0) 0 _ sl _ (λj=>by simp) h3 (Ri _) ht;have hext:jx lh m (lh++List.replicate (Rf (iJ (ops.toList.take y).toArray xs (cQ xs 0) xs 0)) .dead) m:=⟨aN.le_refl m,λk hk=>⟨by rw[DW (List.getElem?_eq_some_iff.1 hk).1];exact hk,rfl⟩⟩;rw[h4]at hany;have:=hm1 (n:=n) (r:=ops.size-y) (B:=B.at m lh w []) (Q2:=QI B l rec W1 lh0 m0 Q2) hF hS hE T2 (yT (ops.toList.take y).toArray xs (cQ xs 0) xs 0) h7 h8 h5' (lh0:=lh) (m0:=m) (λsl' lh' m' a' w' fuel g1 g2 g3 g4=>by refine his (ops.size-y) y fuel _ a' w' g4 h9 ?_;have:=mV (n:=n) (ops:=ops) (Q2:=QI B l rec W1 lh0 m0 Q2) hF hS hE hY (ops.toList.drop y) C3 y sl' lh' m' g a' w' (Q2 .normal) (λj=>by simp) hits g3 (hs.step g1 g2) (λsl' lh' m' g' a' w' M h3=>⟨.normal,sl',lh',m',g',rfl,M,h3⟩);simpa using this) y (Array.replicate ops.size false) sl _ m a { w with drawn:=w.drawn+1 } au (λi _=>by simp[Jz];split<;>rfl) (Ri ops) ⟨hs.vs,hs.df,((hs.hh.rebase []).deads _).drew _⟩ hext hany;rwa [show y+(ops.size-y)=ops.size by omega]at this
  ·cases hc
 ·cases hc
theorem ho1 (hF:lD F) (hS:∀ f,(Q1 f).Ok P f) (hE:∀ t∈Bs,dM P t) (hY:YS B F n P l rec W1 lh0 m0 QY):∀ (c:Code) (s:jq) (sl:List ak) (lh:List ar) (m:aN) (g:Option Ex) (a:Act) (w:World) (Q2:IQ),
 kC P Bs c=some s->IR B l rec W1 lh0 m0 m sl lh g a w->lX B.w0 Q1 l QY s sl lh g Q2->c.wpIn F n P (QI B l rec W1 lh0 m0 Q2) a w:=by
 intro c;induction c with
 |skip=>intro s sl lh m g a w Q2 hc hs hv;cases hc;exact wpIn_skip ⟨.normal,sl,lh,m,g,rfl,hs,hv⟩|label t=>intro s sl lh m g a w Q2 hc hs hv;cases hc;exact wpIn_label ⟨.normal,sl,lh,m,g,rfl,hs,hv⟩
 |region id ops dr=>
   intro s sl lh m g a w Q2 hc hs hv;cases dr with
   |false=>simp[kC,DZ]at hc;obtain⟨xs,T2,rfl⟩:=hc;refine wpIn_region ?_;have:=mV (n:=n) (ops:=ops) (Q2:=QI B l rec W1 lh0 m0 Q2) hF hS hE hY ops.toList xs 0 sl lh m g a w (Q2 .normal) au T2 hv hs (λsl' lh' m' g' a' w' M h3=>⟨.normal,sl',lh',m',g',rfl,M,h3⟩);rwa [Ky,← JH]
   |true=>
     simp[kC]at hc;split at hc
     ·simp[DZ]at hc;obtain⟨ds,Wc,rfl⟩:=hc;exact hfr (B:=B.at m lh w []) hF hS hE Wc ⟨hs.vs,hs.df,hs.hh.rebase []⟩ hv (λsl' lh' m' a' w' M N h3=>⟨.normal,sl',lh',m',g,rfl,hs.step M N,h3⟩)
     ·simp only[DZ]at hc;obtain⟨⟨ds,C3⟩,Wc,rfl⟩:=hc;exact R1260 hF hS hE hY Wc hs hv
 |seq x y ihx ihy=>
   intro s sl lh m g a w Q2 hc hs hv;simp[kC]at hc;split at hc
   ·rename_i sx sy hx hy
    cases hc;refine wpIn_seq (wpIn_mono (ihx sx sl lh m g a w _ hx hs hv) λe a' w' hq=>?_);obtain⟨ex,sl',lh',m',g',rfl,M,h3⟩:=hq;cases ex with
    |normal=>exact ihy sy sl' lh' m' g' a' w' Q2 hy M h3|exit i=>exact⟨.exit i,sl',lh',m',g',rfl,M,h3⟩|ret=>exact⟨.ret,sl',lh',m',g',rfl,M,h3⟩
   ·cases hc
 |cond c x y ihx ihy=>
   intro s sl lh m g a w Q2 hc hs hv;simp[kC]at hc;split at hc
   ·rename_i sx sy hx hy
    cases hc;simp[lX]at hv;have ha:=bc hs.vs c;split at hv
    ·rename_i t ht;rw[ht]at ha;exact wpIn_cond_split (js ha) (λe=>ihx sx sl lh m g a w Q2 hx hs (hv.1 e)) (λe=>ihy sy sl lh m g a w Q2 hy hs (hv.2 e))
    ·exact hv.elim
   ·cases hc
 |block id x ih=>
   intro s sl lh m g a w Q2 hc hs hv;simp[kC,DZ]at hc;obtain⟨sx,hx,rfl⟩:=hc;refine wpIn_block (wpIn_mono (ih sx sl lh m g a w _ hx hs hv) λe a' w' hq=>?_);obtain⟨ex,sl',lh',m',g',rfl,M,h3⟩:=hq;cases ex with
   |normal=>exact⟨.normal,sl',lh',m',g',rfl,M,h3⟩
   |exit i=>
     simp[TI,Exit.inBlock];simp[xV]at h3;split at h3
     ·rename_i e;rw[CV e];exact⟨.normal,sl',lh',m',g',rfl,M,h3⟩
     ·rename_i e;rw[C4 e];exact⟨.exit i,sl',lh',m',g',rfl,M,h3⟩
   |ret=>exact⟨.ret,sl',lh',m',g',rfl,M,h3⟩
 |loop x ih=>
   intro s sl lh m g a w Q2 hc hs hv;simp[kC,DZ]at hc;obtain⟨sx,hx,rfl⟩:=hc;simp[lX]at hv;obtain⟨ι,shs,shl,shg,μ,i0,rfl,rfl,rfl,hr⟩:=hv;refine hev (λk a w=>∃i m',IR B l rec W1 lh0 m0 m' (shs i) (shl i) (shg i) a w/\μ i=k) ⟨_,i0,m,hs,rfl⟩ λk a w hI=>?_;obtain⟨i,m',hi,rfl⟩:=hI;refine wpIn_mono (ih sx (shs i) (shl i) m' (shg i) a w _ hx hi (hr i)) λe a' w' hq=>?_;obtain⟨ex,sl',lh',m2,g',rfl,M,h3⟩:=hq;cases ex with
   |normal=>obtain⟨i',rfl,rfl,rfl,Q7⟩:=h3;exact⟨_,Q7,i',m2,M,rfl⟩
   |exit j=>exact⟨.exit j,sl',lh',m2,g',rfl,M,h3⟩|ret=>exact⟨.ret,sl',lh',m2,g',rfl,M,h3⟩
 |exit id=>intro s sl lh m g a w Q2 hc hs hv;cases hc;exact wpIn_exit ⟨.exit id,sl,lh,m,g,rfl,hs,hv⟩|ret=>intro s sl lh m g a w Q2 hc hs hv;cases hc;exact wpIn_ret ⟨.ret,sl,lh,m,g,rfl,hs,hv⟩
 |scope x ih=>intro s sl lh m g a w Q2 hc hs hv;simp[kC,DZ]at hc;obtain⟨sx,hx,rfl⟩:=hc;exact he3 (λt a w ⟨ex,_,_,_,_,h,_⟩=>by cases ex<;>cases h) (ih sx sl lh m g a w Q2 hx hs hv)
 |_=>intro s sl lh m g a w Q2 hc;cases hc
end it
def J0 (tmps:Array Value):ResultVar->Sem Value
 |.tmp t=>pure (tmps.getD t undef)|.cell b t=>do loadVar t (← asAddr (tmps.getD b undef))
def uQ:List Value->Value
 |[v]=>v|vs=>.tuple vs.toArray
theorem hgr {fn:Func} {tmps:Array Value} {w:World} {vs:List Value} (h:(fn.results.toList.mapM (J0 tmps)).run P w=.ok vs w):(results fn tmps).run P w=.ok (uQ vs) w:=by
 have e0:results fn tmps=(do let vs ← fn.results.mapM (J0 tmps);pure (if h:vs.size=1 then vs[0] else .tuple vs)):=by unfold results;congr 2
 have N:(fn.results.mapM (J0 tmps)).run P w=.ok vs.toArray w:=by rw[Array.mapM_eq_mapM_toList];show(do pure (← fn.results.toList.mapM (J0 tmps)).toArray:Sem (Array Value)).run P w=_;rw[af h];rfl
 rw[e0,af N]
 match vs with
 |[]=>rfl|[v]=>rfl|v::u::l=>simp[uQ]
def mE (P : Program) (Bs : List TypeId) (C3 : List iU) : Prop := ∀ it ∈ C3, ∃ fn, P.funcs[it.f]? = some fn /\ (fn.name == "runtime.NumGoroutine") = false /\ sG P Bs fn = some (it.ntmps, it.body)
theorem qe:∀ {C3:List iU} {f:FuncId} {it:iU},DR C3 f=some it->it∈C3/\it.f=f
 |[],_,_,h=>by cases h
 |x::l,f,it,h=>by
   simp[DR]at h;split at h
   ·rename_i e;cases h;exact⟨G7,e.symm⟩
   ·exact⟨EQ _ (qe h).1,(qe h).2⟩
theorem Aq {m:aN}:∀ (ps:List Nat) (sl xs:List ak) (us:Array Value) (vs:List Value),aC m sl us.toList->aC m xs vs->xs.length=ps.length ->
 aC m (mz sl ps xs) ((ps.zip vs).foldl (λt (p,v)=>t.setIfInBounds p v) us).toList
 |[],sl,xs,us,vs,h,_,_=>by cases xs<;>simpa[mz] using h
 |p::ps,sl,[],us,vs,_,_,hl=>by cases hl
 |p::ps,sl,x::xs,us,vs,h,hx,hl=>by simp[aC]at hx;obtain⟨u,us',rfl,M,N⟩:=hx;simp[mz,List.zip_cons_cons,List.foldl_cons];exact Aq ps _ xs _ us' (by rw[OQ];exact lc p h M) N (by simpa using hl)
theorem SR.step {m m':aN} {sl sl':List ak} {lh lh':List ar} {a a':Act} {w w':World} (h:SR B m sl lh a w) (hs:kl (B.at m lh w a.defers) m' sl' lh' a' w'):SR B m' sl' lh' a' w'/\KeepsOthers w w':=by
 let ⟨M,N⟩:=h.2.2.unbase hs.2.2
 exact⟨⟨hs.1,by rw[hs.2.1];exact pO N h.2.1,M⟩,N⟩
def wD (F:Fence) (w:World):Prop:=F.round=none∨∃l0 r0,F.round=some l0/\w.heap[l0]? = some (.loop r0)
theorem wD.keeps {F:Fence} {w w':World} (h:wD F w) (hk:KeepsOthers w w'):wD F w' :=
 h.imp_right λ⟨l0,r0,M,N⟩=>⟨l0,r0,M,hk.same _ _ N rfl⟩
theorem hly {C3:List iU} (hS:∀ f,(Q1 f).Ok P f) (hE:∀ t∈Bs,dM P t) (hI:mE P Bs C3):∀ (c:Code) (F:Fence) (n nb:Nat) (B:dP) (s:hG) (sl:List ak) (lh:List ar) (m:aN) (a:Act) (w:World) (Q2:Ex->List ak->List ar->Prop),
 lD F->wD F w->dE P Bs C3 c=some s->SR B m sl lh a w->cJ B.w0 Q1 nb s sl lh Q2->c.wpIn F n P (QC B nb lh m w Q2) a w:=by
 have hSS:∀f,(Q1 f).Sound P f:=λf=>(hS f).sound;intro c;induction c with
 |skip=>intro F n nb B s sl lh m a w Q2 hF hr hc hs hv;cases hc;exact wpIn_skip ⟨.normal,sl,lh,m,rfl,hs,o5.refl _ _ _,.refl _,hv⟩|label l=>intro F n nb B s sl lh m a w Q2 hF hr hc hs hv;cases hc;exact wpIn_label ⟨.normal,sl,lh,m,rfl,hs,o5.refl _ _ _,.refl _,hv⟩
 |region id ops dr=>
   intro F n nb B s sl lh m a w Q2 hF hr hc hs hv;cases dr with
   |false=>simp only[dE,DZ]at hc;obtain⟨xs,T2,rfl⟩:=hc;refine wpIn_region ?_;have:=pZ (n:=n) (ops:=ops) (B:=B.at m lh w a.defers) (Q2:=QC B nb lh m w Q2) hF hSS hE [] ops.toList xs 0 sl lh m a w (Q2 .normal) au T2 hv ⟨hs.1,rfl,hs.2.2.rebase _⟩ (λsl' lh' m' a' w' M N h3=>⟨.normal,sl',lh',m',rfl,(hs.step M).1,N.toN nb,(hs.step M).2,h3⟩);rw[KE]at this;rwa [Ky,← JH]
   |true=>
     simp only[dE]at hc;split at hc
     ·rename_i t ht;cases hc;exact hnd (B:=B.at m lh w a.defers) hF hS hE ht ⟨hs.1,rfl,hs.2.2.rebase _⟩ hv (λsl' lh' m' a' w' M N h3=>⟨.normal,sl',lh',m',rfl,(hs.step M).1,N.toN nb,(hs.step M).2,h3⟩)
     ·split at hc
      ·rename_i t ht;cases hc;exact hnw (B:=B.at m lh w a.defers) hF hS hE ht ⟨hs.1,rfl,hs.2.2.rebase _⟩ hv (λsl' lh' m' a' w' M N h3=>⟨.normal,sl',lh',m',rfl,(hs.step M).1,N.toN nb,(hs.step M).2,h3⟩)
      simp only[DZ]at hc;obtain⟨ds,Wc,rfl⟩:=hc;exact hfr (B:=B.at m lh w a.defers) hF hS hE Wc ⟨hs.1,rfl,hs.2.2.rebase _⟩ hv (λsl' lh' m' a' w' M N h3=>⟨.normal,sl',lh',m',rfl,(hs.step M).1,N.toN nb,(hs.step M).2,h3⟩)
 |seq x y ihx ihy=>
   intro F n nb B s sl lh m a w Q2 hF hr hc hs hv;simp only[dE]at hc;split at hc
   ·rename_i sx sy hx hy
    cases hc;refine wpIn_seq (wpIn_mono (ihx F n nb B sx sl lh m a w _ hF hr hx hs hv) λe a' w' hq=>?_);obtain⟨ex,sl',lh',m',rfl,M,N,hk,h3⟩:=hq;cases ex with
    |normal=>exact wpIn_mono (ihy F n nb B sy sl' lh' m' a' w' Q2 hF (hr.keeps hk) hy M h3) λe a'' w''=>QC.of N hk λ_ _ _ h=>h
    |exit i=>exact⟨.exit i,sl',lh',m',rfl,M,N,hk,h3⟩|ret=>exact⟨.ret,sl',lh',m',rfl,M,N,hk,h3⟩
   ·cases hc
 |cond c x y ihx ihy=>
   intro F n nb B s sl lh m a w Q2 hF hr hc hs hv;simp only[dE]at hc;split at hc
   ·rename_i sx sy hx hy
    cases hc;simp only[cJ]at hv;have ha:=bc hs.1 c;split at hv
    ·rename_i t ht;rw[ht]at ha;exact wpIn_cond_split (js ha) (λe=>ihx F n nb B sx sl lh m a w Q2 hF hr hx hs (hv.1 e)) (λe=>ihy F n nb B sy sl lh m a w Q2 hF hr hy hs (hv.2 e))
    ·exact hv.elim
   ·cases hc
 |block id x ih=>
   intro F n nb B s sl lh m a w Q2 hF hr hc hs hv;simp only[dE,DZ]at hc;obtain⟨sx,hx,rfl⟩:=hc;refine wpIn_block (wpIn_mono (ih F n nb B sx sl lh m a w _ hF hr hx hs hv) λe a' w' hq=>?_);obtain⟨ex,sl',lh',m',rfl,M,N,hk,h3⟩:=hq;cases ex with
   |normal=>exact⟨.normal,sl',lh',m',rfl,M,N,hk,h3⟩
   |exit i=>
     simp only[TI,Exit.inBlock];simp only[xC]at h3;split at h3
     ·rename_i e;rw[CV e];exact⟨.normal,sl',lh',m',rfl,M,N,hk,h3⟩
     ·rename_i e;rw[C4 e];exact⟨.exit i,sl',lh',m',rfl,M,N,hk,h3⟩
   |ret=>exact⟨.ret,sl',lh',m',rfl,M,N,hk,h3⟩
 |loop x ih=>
   intro F n nb B s sl lh m a w Q2 hF hr hc hs hv;simp only[dE,DZ]at hc;obtain⟨sx,hx,rfl⟩:=hc;simp only[cJ]at hv;obtain⟨ι,shs,shl,μ,i0,h0,new6⟩:=hv;have sub:∀{m:aN} {sl Si:List ak} {lh lh1:List ar} {a:Act} {w:World},Sub nb sl lh Si lh1->SR B m sl lh a w->∃m1,SR B m1 Si lh1 a w/\o5 nb lh m lh1 m1:=λ{m sl Si lh lh1 a w} M N=>by obtain⟨m1,g1,g2⟩:=M.rel (B:={ B with ds:=a.defers }) (a:=a) (w:=w) (m:=m) ⟨N.1,rfl,N.2.2.withDs _⟩;exact⟨m1,⟨g1.1,N.2.1,g1.2.2.noDs⟩,g2⟩
   obtain⟨m1,U5,pC⟩:=sub h0 hs;refine hev (λk a w'=>∃i m',SR B m' (shs i) (shl i) a w'/\o5 nb lh m (shl i) m'/\KeepsOthers w w'/\μ i=k) ⟨_,i0,m1,U5,pC,.refl _,rfl⟩ λk a w1 hI=>?_;obtain⟨i,m',hi,he,hk,rfl⟩:=hI;refine wpIn_mono (ih F n nb B sx (shs i) (shl i) m' a w1 _ hF (hr.keeps hk) hx hi (new6 i)) λe a' w' hq=>?_;obtain⟨ex,sl',lh',m2,rfl,M,N,We,h3⟩:=hq;cases ex with
   |normal=>obtain⟨i',hsub,Q7⟩:=h3;obtain⟨m3,XF,io13⟩:=sub hsub M;exact⟨_,Q7,i',m3,XF,(he.trans N).trans io13,hk.trans We,rfl⟩
   |exit j=>exact⟨.exit j,sl',lh',m2,rfl,M,he.trans N,hk.trans We,h3⟩|ret=>exact⟨.ret,sl',lh',m2,rfl,M,he.trans N,hk.trans We,h3⟩
 |exit id=>intro F n nb B s sl lh m a w Q2 hF hr hc hs hv;cases hc;exact wpIn_exit ⟨.exit id,sl,lh,m,rfl,hs,o5.refl _ _ _,.refl _,hv⟩|ret=>intro F n nb B s sl lh m a w Q2 hF hr hc hs hv;cases hc;exact wpIn_ret ⟨.ret,sl,lh,m,rfl,hs,o5.refl _ _ _,.refl _,hv⟩
 |scope x ih=>intro F n nb B s sl lh m a w Q2 hF hr hc hs hv;simp only[dE,DZ]at hc;obtain⟨sx,hx,rfl⟩:=hc;exact he3 (λl a w ⟨ex,_,_,_,h,_⟩=>by cases ex<;>cases h) (ih F n nb B sx sl lh m a w Q2 hF hr hx hs hv)
 |rangeFunc gop ps asg body iha ihb=>
   intro F n nb B s sl lh m a w Q2 hF hr hc hs hv;simp only[dE]at hc;split at hc
   ·rename_i yat yav im10 im11
    ·cases hc
     simp only[cJ]at hv;have hg:=bc hs.1 gop;split at hv
     ·rename_i f ys pr
      rw[pr]at hg;simp only[C5,aC]at hg;obtain⟨us,lb,hg,TO,YT⟩:=hg;obtain rfl:us=#[]:=by apply Array.toList_inj.1;simpa using TO
      split at hv
      ·rename_i it hit
       obtain⟨hmem,rfl⟩:=qe hit;obtain⟨fn,hf,YL,Y3⟩:=hI it hmem;unfold sG at Y3;split at Y3
       ·rename_i _ _ cb hbody hres
        simp only[DZ,Prod.mk.injEq]at Y3;obtain⟨nzb19,nm12,iz21,WN⟩:=Y3;subst WN;refine wpIn_rangeFunc ?_;intro WY hfn0
        let F0:Fence:={ F with round:=none }
        have hF0:lD F0:=⟨hF.fn,hF.depth,hF.alive⟩;obtain⟨l,mark,D0,rec,W1,hrec,henter,hL1,n18,hH1,hlw,hmark⟩:∃ (l:Nat) (mark:List Deferred) (D0:Nat) (rec:LoopState->Option Code->Loop) (W1:World),rec=(λst pe=>{ state:=st,pending:=pe,fn:=WY,tmps:=a.tmps,params:=ps,assign:=asg,body:=body,defers:=D0 })/\(Instr.enterLoop WY a.tmps ps asg body F.round).run P w=.ok (l,mark) W1/\W1.heap[l]? = some (.loop (rec .ready none))/\KeepsOthers w W1/\bh B m lh W1/\w.heap.size<=l/\(∀ w'',KB l W1 w''->KeepsOthers w w''->kB B (mark++a.defers) w''):=by
         rcases hr with Wo|⟨l0,r0,Wo,WM⟩
         ·refine ⟨w.heap.size+1,[{ target:=.collected w.heap.size,args:=#[] }],w.heap.size,_,(w.alloc (.deferred (some []))).alloc (.loop { state:=.ready,pending:=none,fn:=WY,tmps:=a.tmps,params:=ps,assign:=asg,body:=body,defers:=w.heap.size }),rfl,?_,?_,(KeepsOthers.alloc _ _).trans (KeepsOthers.alloc _ _),(hs.2.2.junk _).junk _,K,?_⟩
          ·rw[Wo];exact run_enterLoop_outer _ _ _ _ _
          ·have:=World.alloc_heap_new (w.alloc (.deferred (some []))) (.loop { state:=.ready,pending:=none,fn:=WY,tmps:=a.tmps,params:=ps,assign:=asg,body:=body,defers:=w.heap.size });rwa [World.size_alloc]at this
          ·intro w'' XB hk;have hK1:=(KeepsOthers.alloc (w.alloc (.deferred (some []))) (.loop { state:=.ready,pending:=none,fn:=WY,tmps:=a.tmps,params:=ps,assign:=asg,body:=body,defers:=w.heap.size })).same _ _ (World.alloc_heap_new w (.deferred (some []))) rfl;refine⟨_,rfl,XB.same _ _ K hK1 rfl,⟨hs.2.2.fsize,hs.2.2.size⟩,hs.2.1.old (λo ho=>?_),pO hk hs.2.1⟩;have:=(Array.getElem?_eq_some_iff.1 ho).1;omega
         ·refine⟨w.heap.size,[],r0.defers,_,w.alloc (.loop { state:=.ready,pending:=none,fn:=WY,tmps:=a.tmps,params:=ps,assign:=asg,body:=body,defers:=r0.defers }),rfl,?_,World.alloc_heap_new _ _,KeepsOthers.alloc _ _,hs.2.2.junk _,D7 _,λw'' _ hk=>pO hk hs.2.1⟩;rw[Wo];exact run_enterLoop_inner WM _ _ _ _ _
        have sK:B.w0.heap.size<=l:=Eg hs.2.2.size hlw;have hlef:B.wf.heap.size<=l:=Eg hs.2.2.fsize hlw
        refine ⟨l,mark,W1,{ target:=.fn (.func it.f) lb,args:=#[.func (.yield l) #[] #[]] },W1,it.f,
         #[.func (.yield l) #[] #[]]++lb,W1,henter,?_,λf' _=>hF.fn f',?_,(λe=>by rw[hF.depth]at e;cases e),?_⟩
        ·simp only[resolve,hg];simp[go_sem]
        ·simp only[invoke,callFunc];rw[af (a:=P) (w':=W1) rfl,hf];simp only[YL,hbody,Option.isNone_some,Ee,EC];rfl
        ·-- THE ITERATOR
         have hY:YS B F0 (n-1) P l rec W1 lh m (λxs lh At=>xs.length=ps.toList.length/\cJ B.w0 Q1 lh.length yat (mz sl ps.toList xs) lh (vY (λsl lh'=>cJ B.w0 Q1 lh.length yav sl lh' λx _ lh=>At x lh) λ_ _ _=>False)):=by
          intro m' lh' w' args vs At hh he sw XB R3 hy;obtain⟨hlen,hy⟩:=hy;refine⟨WY,_,asg,body,by have:=run_yield (P:=P) (args:=vs.toArray) sw (by rw[hrec];have:=c7 R3;simp;simp at hlen;omega);rw[hrec]at this;exact this,?_⟩;refine roundIn_of_wpIn hfn0 ?_;have Uy:SR B m' (mz sl ps.toList args) lh' { tmps:=(ps.zip vs.toArray).foldl (λt (p,v)=>t.setIfInBounds p v) a.tmps,defers:=[] } w':=by refine⟨?_,trivial,hh⟩;have:=Aq ps.toList sl args a.tmps vs (db he.1 _ _ hs.1) R3 hlen;rw[← Array.foldl_toList,Array.toList_zip];simpa using this
          have hFr:lD (F0.inRound l):=⟨hF.fn,hF.depth,hF.alive⟩;refine wpIn_mono (iha (F0.inRound l) (n-1-1) lh'.length B yat _ lh' m' _ w' _ hFr (.inr ⟨l,_,rfl,sw⟩) im10 Uy hy) λe a1 w1 hq=>?_;obtain⟨ex,Si,lh1,m1,rfl,M,N,WK,h3⟩:=hq;cases ex with
          |normal=>
            have Wm:w1.heap[l]? = some (.loop (rec .ready none)):=WK.same _ _ sw rfl;refine⟨_,run_beginRound Wm (by rw[hrec]),?_⟩;have Vh:=M.2.2.putObj Wm rfl hlef sK (.loop { rec .ready none with state:=.busy });have hkb1:=(XB.keeps WK).put (.loop { rec .ready none with state:=.busy });have sM:kB B a1.defers (w1.putObj (l) (.loop { rec .ready none with state:=.busy })):=M.2.1.keeps λBf o hD=>(World.putObj_heap_other (λe=>by subst e;rw[Wm]at hD;cases hD)).trans hD;have hlt1:l<w1.heap.size:=(Array.getElem?_eq_some_iff.1 Wm).1;have hr2:(w1.putObj (l) (.loop { rec .ready none with state:=.busy })).heap[l]? = some (.loop { rec .ready none with state:=.busy }):=World.putObj_heap_same hlt1;refine wpIn_mono (ihb (F0.inRound l) (n-1-1) lh'.length B yav Si lh1 m1 a1 _ _ hFr (.inr ⟨l,_,rfl,hr2⟩) im11 ⟨M.1,sM,Vh⟩ h3) λe a2 w2 hq=>?_;obtain⟨ex,TF,lh2,m2,rfl,k1,k2,We,k3⟩:=hq;have so:=We.same _ _ hr2 rfl;have hend:∀jump:Option Code,(Instr.endRound (l) jump).run P w2=.ok (.bool jump.isNone) (w2.putObj (l) (.loop (rec (if jump.isNone then .ready else .done) jump))):=λjump=>by have:=run_endRound (P:=P) jump so;rw[hrec]at this ⊢;exact this
            have hlt3:l<w2.heap.size:=(Array.getElem?_eq_some_iff.1 so).1;have fin:∀ x,∃ x' m'' lh'',Ending.returned (.bool (Ie x).isNone)=.returned (.bool (Ie x').isNone)/\bh B m'' lh'' (w2.putObj (l) (.loop (rec (if(Ie x).isNone then .ready else .done) ((Ie x).map It))))/\jx lh' m' lh'' m''/\JC (l) rec (Ie x') (w2.putObj (l) (.loop (rec (if(Ie x).isNone then .ready else .done) ((Ie x).map It))))/\KB (l) W1 (w2.putObj (l) (.loop (rec (if(Ie x).isNone then .ready else .done) ((Ie x).map It))))/\(At x lh2->At x' lh''):=λx=>
             ⟨x,m2,lh2,rfl,k1.2.2.putObj so rfl hlef sK _,acJ hh (N.trans k2),World.putObj_heap_same hlt3,(hkb1.keeps We).put _,id⟩
            cases ex with
            |normal=>obtain⟨x',m'',lh'',e1,e2,e3,e4,e5,e6⟩:=fin .normal;exact⟨_,_,hend none,x',m'',lh'',e1,e2,e3,e4,e5,e6 k3⟩|exit i=>obtain⟨x',m'',lh'',e1,e2,e3,e4,e5,e6⟩:=fin (.exit i);exact⟨_,_,hend (some (.exit i)),x',m'',lh'',e1,e2,e3,e4,e5,e6 k3⟩|ret=>obtain⟨x',m'',lh'',e1,e2,e3,e4,e5,e6⟩:=fin .ret;exact⟨_,_,hend (some .ret),x',m'',lh'',e1,e2,e3,e4,e5,e6 k3⟩
          |exit i=>exact h3.elim|ret=>exact h3.elim
         have rb:IR B (l) rec W1 lh m m (ks (l)::ys++List.replicate (it.ntmps-(ys.length+1)) .any) lh none { tmps:=(#[Value.func (.yield (l)) #[] #[]]++lb)++Array.replicate (fn.ntmps-(#[Value.func (.yield (l)) #[] #[]]++lb).size) undef,defers:=[] } W1:=by
          refine⟨?_,rfl,hH1,jx.refl _ _,hL1,KB.refl _ _⟩;have hl:=c7 YT;simp only[LA,Array.toList_replicate,Array.size_append];refine eo ?_ ?_
          ·simp only[aC];exact⟨_,_,rfl,by simp only[ks,C5],YT⟩
          ·have e:fn.ntmps-(#[Value.func (.yield (l)) #[] #[]].size+lb.size)=it.ntmps-(ys.length+1):=by
            have:lb.size=ys.length:=by simpa using hl
            rw[iz21,this];simp;omega
           rw[e];exact gR _ _
         refine callsIn_of_wp (F:=F0) hf hbody (hF.fn _) (wpIn_mono (ho1 hF0 hS hE hY cb it.body _ lh m none _ W1 _ nm12 rb (hv _)) λe a' w' hq=>?_) rfl;obtain⟨ex,sl',lh',m',g,rfl,hi,hq⟩:=hq;have hres':(results fn a'.tmps).run P w'=.ok (uQ []) w':=by refine hgr ?_;rw[hres];rfl
         have Q7:l<w'.heap.size:=(Array.getElem?_eq_some_iff.1 hi.rc).1;have hfin:∀ x,Q2 x sl lh'->∃ o,QC B nb lh m w Q2 (TI x) { a with defers:=mark++a.defers } (w'.putObj (l) o)/\o=.loop { rec (if g.isNone then .ready else .done) (g.map It) with state:=.exhausted }:=λx hx=>by
          have hk:KeepsOthers w (w'.putObj (l) (.loop { rec (if g.isNone then .ready else .done) (g.map It) with state:=.exhausted })):=by have XB:=hi.kb.put (.loop { rec (if g.isNone then .ready else .done) (g.map It) with state:=.exhausted });exact⟨Eg n18.size XB.size,λk o hk ho=>XB.same k o (λe=>by have:=(Array.getElem?_eq_some_iff.1 hk).1;omega) (n18.same k o hk ho) ho⟩
          refine⟨_,⟨x,sl,lh',m',rfl,⟨db hi.ext.1 _ _ hs.1,?_,hi.hh.putObj hi.rc rfl hlef sK _⟩,hi.ext.toN nb,hk,hx⟩,rfl⟩;exact hmark _ (hi.kb.put _) hk
         have hendl:=run_endLoop (P:=P) hi.rc (by rw[hrec];cases g<;>simp);have main:ao7 Q2 sl .normal sl' lh' g->rangePost F n P (l) (QC B nb lh m w Q2) { a with defers:=mark++a.defers } (.returned (uQ [])) w':=λhq=>by
          refine⟨_,_,hendl,?_⟩;cases g with
          |none=>obtain⟨o,M,rfl⟩:=hfin .normal hq;rw[hrec]at M ⊢;exact M
          |some x=>
            obtain⟨o,M,rfl⟩:=hfin x hq;rw[hrec]at M ⊢;cases x with
            |normal=>exact wpIn_skip M|exit i=>exact wpIn_exit M|ret=>exact wpIn_ret M
         cases ex with
         |normal=>exact⟨hi.df,_,hres',main hq⟩|ret=>exact⟨hi.df,_,hres',main (by cases g<;>exact hq)⟩|exit i=>exact hq.elim
       ·cases Y3
      ·exact hv.elim
     ·exact hv.elim
   ·cases hc
 |_=>intro F n nb B s sl lh m a w Q2 hF hr hc;cases hc
end
end Go.Sx
namespace Go.Sx
inductive CM where|tmp (t:Nat)|cell (t:Nat) (n:Option Nat)
structure aK where
 ntmps:Nat
 res:List CM
 body:hG
def oy (P:Program):List ResultVar->Option (List CM)
 |[]=>some []|.tmp t::l=>(oy P l).map (.tmp t::·)
 |.cell a t::l=>match rf P t,oy P l with|some n,some l=>some (.cell a n::l)|_,_=>none
def eS (P:Program) (Bs:List TypeId) (C3:List iU) (fn:Func):Option aK :=
 match fn.body with
 |some c=>match dE P Bs C3 c,oy P fn.results.toList with|some s,some r=>some ⟨fn.ntmps,r,s⟩|_,_=>none
 |none=>none
def kf (w0:World) (sl:List ak) (lh:List ar):List CM->(List ak->Prop)->Prop
 |[],At=>At []|.tmp t::l,At=>kf w0 sl lh l λvs=>At (sl.getD t .any::vs)
 |.cell t n::l,At=>match sl.getD t .any with
   |.ptr (some p)=>match n with
     |none=>∃v,ld w0 lh p=some v/\kf w0 sl lh l λvs=>At (v::vs)
     |some n=>∃cs,lds w0 lh p n=some cs/\kf w0 sl lh l λvs=>At (.agg cs::vs)
   |_=>False
def sr:List ak->ak
 |[v]=>v|vs=>.tup vs
def axf (w0:World) (res:List CM) (At:ak->List ar->Prop):Ex->List ak->List ar->Prop
 |.normal,sl,lh=>kf w0 sl lh res λvs=>At (sr vs) lh
 |.ret,sl,lh=>kf w0 sl lh res λvs=>At (sr vs) lh
 |.exit _,_,_=>False
def Jw (w0:World) (Q1:FuncId->ca) (f:aK) (args:List ak) (lh:List ar) (At:ak->List ar->Prop):Prop :=
 cJ w0 Q1 lh.length f.body (args++List.replicate (f.ntmps-args.length) .any) lh (axf w0 f.res At)
def Mr (nb:Nat) (At:ak->List ar->Prop) (r:ak) (lh:List ar):Prop:=∃r1 lh1,Sub nb [r] lh [r1] lh1/\At r1 lh1
mutual
theorem ayr:∀ a:ak,ren id a=a
 |.int ..=>by simp[ren]
 |.bool ..=>by simp[ren]
 |.str ..=>by simp[ren]
 |.ptr none=>by simp[ren]
 |.ptr (some (.g _))=>by simp[ren]
 |.ptr (some (.l k off))=>by simp[ren,id]
 |.slice none _ _=>by simp[ren]
 |.slice (some (.g _)) _ _=>by simp[ren]
 |.slice (some (.l k off)) _ _=>by simp[ren,id]
 |.fn f xs ys=>by simp only[ren];rw[sO xs,sO ys]
 |.agg cs=>by simp[ren];rw[sO cs]
 |.tup cs=>by simp[ren];rw[sO cs]
 |.raw _=>by simp[ren]
 |.any=>by simp[ren]
theorem sO:∀ l:List ak,yi id l=l
 |[]=>by simp[yi]
 |a::l=>by simp only[yi];rw[ayr a,sO l]
end
mutual
theorem aal {p Pw:Nat->Prop} (h:∀ k,p k->Pw k):∀ a:ak,l9 p a->l9 Pw a
 |.int ..,_=>by simp[l9]
 |.bool ..,_=>by simp[l9]
 |.str ..,_=>by simp[l9]
 |.ptr none,_=>by simp[l9]
 |.ptr (some (.g _)),_=>by simp[l9]
 |.ptr (some (.l k off)),hp=>by simp[l9]at *;exact h k hp
 |.slice none _ _,_=>by simp[l9]
 |.slice (some (.g _)) _ _,_=>by simp[l9]
 |.slice (some (.l k off)) _ _,hp=>by simp[l9]at *;exact h k hp
 |.fn f xs ys,hp=>by simp[l9]at *;exact⟨lq h xs hp.1,lq h ys hp.2⟩
 |.agg cs,hp=>by simp[l9]at *;exact lq h cs hp
 |.tup cs,hp=>by simp[l9]at *;exact lq h cs hp
 |.raw _,_=>by simp[l9]
 |.any,_=>by simp[l9]
theorem lq {p Pw:Nat->Prop} (h:∀ k,p k->Pw k):∀ l:List ak,kq p l->kq Pw l
 |[],_=>by simp[kq]
 |a::l,hp=>by simp[kq]at *;exact⟨aal h a hp.1,lq h l hp.2⟩
end
theorem uo {p:Nat->Prop}:∀ {l:List ak},kq p l->m6 p id l l
 |[],_=>by simp[m6]
 |a::l,h=>by simp[kq]at h;simp[m6];exact⟨.inr ⟨h.1,(ayr a).symm⟩,uo h.2⟩
mutual
theorem hnm {m:aN} {p:Nat->Prop} (h:∀ k b,m k=some b->p k):∀ (a:ak) (v:Value),C5 m a v->l9 p a
 |.int ..,_,_=>by simp[l9]
 |.bool ..,_,_=>by simp[l9]
 |.str ..,_,_=>by simp[l9]
 |.ptr none,_,_=>by simp[l9]
 |.ptr (some (.g _)),_,_=>by simp[l9]
 |.ptr (some (.l k off)),_,hv=>by simp[C5,eg]at hv;let ⟨_,_,b,hb,_⟩:=hv;simp[l9];exact h k b hb
 |.slice none _ _,_,_=>by simp[l9]
 |.slice (some (.g _)) _ _,_,_=>by simp[l9]
 |.slice (some (.l k off)) _ _,_,hv=>by simp[C5,eg]at hv;let ⟨_,_,b,hb,_⟩:=hv;simp[l9];exact h k b hb
 |.fn _ xs ys,_,hv=>by simp[C5]at hv;let ⟨us,vs,_,N,h3⟩:=hv;simp[l9];exact⟨gD h xs _ N,gD h ys _ h3⟩
 |.agg cs,_,hv=>by simp[C5]at hv;let ⟨vs,_,N⟩:=hv;simp[l9];exact gD h cs _ N
 |.tup cs,_,hv=>by simp[C5]at hv;let ⟨vs,_,N⟩:=hv;simp[l9];exact gD h cs _ N
 |.raw _,_,_=>by simp[l9]
 |.any,_,_=>by simp[l9]
theorem gD {m:aN} {p:Nat->Prop} (h:∀ k b,m k=some b->p k):∀ (l:List ak) (vs:List Value),aC m l vs->kq p l
 |[],_,_=>by simp[kq]
 |a::l,_,hv=>by simp[aC]at hv;let ⟨u,us,_,N,h3⟩:=hv;simp[kq];exact⟨hnm h a u N,gD h l us h3⟩
end
def WF (lh:List ar):Prop:=∀(k:Nat) (cs:List ak) (ty:TypeId),lh[k]? = some (.cells cs ty)->kq (λj=>j<lh.length) cs
theorem bh.wf {B:dP} {m:aN} {lh:List ar} {w:World} (h:bh B m lh w):WF lh:=λk cs ty hk=>by
 let ⟨b,vs,_,R3,_⟩:=h.loc k cs ty hk
 exact gD (λj b hb=>Classical.byContradiction λhn=>by rw[h.dom j K]at hb;cases hb) cs _ R3
section
variable {P:Program} {Q1:FuncId->ca} {Bs:List TypeId}
theorem mM {B:dP} {m:aN} {sl:List ak} {lh:List ar} {a:Act} {w:World} (hs:SR B m sl lh a w):∀ (rs:List ResultVar) (xs:List CM) (At:List ak->Prop),oy P rs=some xs->kf B.w0 sl lh xs At ->
 ∃ys vs,aC m ys vs/\At ys/\(rs.mapM (J0 a.tmps)).run P w=.ok vs w
 |[],xs,At,hc,hv=>by simp only[oy,DJ]at hc;subst hc;exact⟨[],[],by simp[aC],hv,rfl⟩
 |.tmp t::rs,xs,At,hc,hv=>by
   simp only[oy,DZ]at hc;obtain⟨l,hl,rfl⟩:=hc;simp only[kf]at hv
   let ⟨ys,vs,M,N,h3⟩:=mM hs rs l _ hl hv
   refine⟨_,a.tmps.getD t undef::vs,?_,N,?_⟩
   ·simp only[aC];exact⟨_,_,rfl,by simpa using oE hs.1 t undef,M⟩
   ·simp only[JS];rw[af (a:=a.tmps.getD t undef) (w':=w) rfl,af h3];rfl
 |.cell b t::rs,xs,At,hc,hv=>by
   simp only[oy]at hc;split at hc
   ·rename_i n l hn hl
    cases hc;simp only[kf]at hv;have hb:C5 m (sl.getD b .any) (a.tmps.getD b undef):=by simpa using oE hs.1 b undef
    split at hv
    ·rename_i p hp
     rw[hp]at hb
     let ⟨Pw,hq,SC⟩:=jZ hb
     let ⟨d,hd,VC⟩:=lr hn
     cases n with
     |none=>
       let ⟨x,hx,hv⟩:=hv
       obtain⟨ad,v,rfl,hcell,hr⟩:=R59 hs.2.2 SC hx
       let ⟨ys,vs,M,N,h3⟩:=mM hs rs l _ hl hv
       refine⟨_,v::vs,by simp only[aC];exact⟨_,_,rfl,hr,M⟩,N,?_⟩;rcases VC with ⟨_,k,hk,_⟩|⟨h4,_⟩
       ·cases hk
       ·simp only[JS];rw[af (a:=v) (w':=w) (by simp only[J0];rw[hq,af (a:=ad) (w':=w) rfl];unfold loadVar;rw[af (ln hd w),h4];exact yo hcell)];rw[af h3];rfl
     |some n=>
       let ⟨x,hx,hv⟩:=hv
       obtain⟨ad,us,rfl,hrun,hr⟩:=uz (P:=P) hs.2.2 SC hx
       let ⟨ys,vs,M,N,h3⟩:=mM hs rs l _ hl hv
       refine⟨_,.agg us::vs,by simp only[aC];exact⟨_,_,rfl,by simp only[C5];exact⟨_,rfl,hr⟩,M⟩,N,?_⟩;rcases VC with ⟨h4,k,hk,h5⟩|⟨_,hk⟩
       ·cases hk;simp only[JS];rw[af (a:=Value.agg us) (w':=w) (by simp only[J0];rw[hq,af (a:=ad) (w':=w) rfl];unfold loadVar;rw[af (ln hd w),h4];simp only[EN];rw[af (run_sizeOf h5 w),af hrun];rfl)];rw[af h3];rfl
       ·cases hk
    ·exact hv.elim
   ·cases hc
theorem AG {B:dP} {w:World} {Bf:Nat} {o:Obj}:∀ {ds:List Deferred},(∀ d'∈ds,d'.target≠.collected Bf)->kB B ds w->kB B ds (w.putObj Bf o)
 |[],_,_=>trivial|d::ds,hn,⟨D',M,N,h3,h4,h5⟩=>⟨D',M,(World.putObj_heap_other (λe=>by subst e;exact hn d G7 (by rw[M]))).trans N,h3,h4,AG (λd' hd=>hn d' (EQ _ hd)) h5⟩
theorem qu {C3 : List iU} {f : FuncId} {fn : Func} {sf : aK} {Sp : ca} (hS : ∀ g, (Q1 g).Ok P g) (hE : ∀ t ∈ Bs, dM P t) (hI : mE P Bs C3) (hf : P.funcs[f]? = some fn) (hn : (fn.name == "runtime.NumGoroutine") = false) (hc : eS P Bs C3 fn = some sf)
 (h:∀w0 args lh At,WF lh->kq (λj=>j<lh.length) args->Sp w0 args lh At->Jw w0 Q1 sf args lh (Mr lh.length At)):Sp.Sound P f:=by
 intro B m lh w args vs At hrel hargs S4
 have hv:=h B.w0 args lh At hrel.wf (gD (λj b hb=>Classical.byContradiction λhn=>by rw[hrel.dom j K]at hb;cases hb) args vs hargs) S4
 unfold eS at hc
 split at hc
 ·rename_i c hb
  split at hc
  ·rename_i s rs hs hr
   cases hc
   refine⟨⟨fn,hf,hn,by rw[hb];rfl⟩,?_⟩
   refine(callsIn_wide (n:=0)).1 (callsIn_of_wp_marks hf hb trivial (wpIn_mono (hly hS hE hI c Fence.wide 0 lh.length B s _ lh m _ w _ hpe (.inl rfl) hs ?_ hv) λe a w' hq=>?_))
   ·refine⟨?_,trivial,hrel⟩
    simp[LA,Array.toList_replicate,List.size_toArray]
    rw[c7 hargs]
    exact eo (by simpa using hargs) (gR _ _)
   ·obtain ⟨x,sl,lh',m',rfl,M,N,_,h3⟩:=hq
    have key:kf B.w0 sl lh' rs (λvs=>Mr lh.length At (sr vs) lh')->∀ (ds:List Deferred) (w1:World),kB B ds w1->SR B m' sl lh' { a with defers:=[] } w1->LeavesInM Fence.wide 0 P fn a.tmps (λe w'=>∃ v r m' lh',e=.returned v/\C5 m' r v/\jx lh m lh' m'/\bh B m' lh' w'/\At r lh') ds .returning w1:=λhv ds=>by
     induction ds with
     |nil=>
       intro w1 _ U5
       let ⟨ys,us,g1,g2,g3⟩:=mM U5 fn.results.toList rs _ hr hv
       let ⟨r1,lh1,hsub,hK⟩:=g2
       have hone:C5 m' (sr ys) (uQ us):=by
        match ys,g1 with
        |[],g1=>simp[aC]at g1;subst g1;simp[sr,uQ,C5,aC]
        |[y],g1=>simp only[aC]at g1;obtain⟨u,us',rfl,g4,rfl⟩:=g1;exact g4
        |y::z::l,g1=>
          have g1':=g1
          simp[aC]at g1'
          obtain⟨u,us1,rfl,_,u2,us2,rfl,_⟩:=g1'
          simp only[sr,uQ,C5]
          exact⟨_,rfl,by simpa using g1⟩
       let ⟨m1,U6,pC⟩:=hsub.rel (B:={ B with ds:=[] }) (a:=⟨#[uQ us],[]⟩) (m:=m') (w:=w1) ⟨by simp only[aC];exact⟨_,_,rfl,hone,rfl⟩,rfl,U5.2.2.withDs _⟩
       have Wm:=U6.1
       simp only[aC]at Wm
       let ⟨u,us',e,g5,_⟩:=Wm
       simp at e
       exact⟨_,hgr g3,_,r1,m1,lh1,rfl,by rw[e.1];exact g5,acJ hrel (N.trans pC),U6.2.2.noDs,hK⟩
     |cons d ds ih=>
       intro w1 hm U5
       obtain⟨Bf,rfl,hD,hb,hd,UW⟩:=hm
       refine⟨au,.inl ⟨Bf,_,rfl,run_takeDeferred hD,ih _ ?_ ⟨U5.1,trivial,U5.2.2.putObj hD rfl hb.1 hb.2 _⟩⟩⟩
       refine AG hd UW
    cases x with
    |normal=>exact key h3 a.defers w' M.2.1 ⟨M.1,trivial,M.2.2⟩
    |exit i=>exact h3.elim
    |ret=>exact key h3 a.defers w' M.2.1 ⟨M.1,trivial,M.2.2⟩
  ·cases hc
 ·cases hc
end
end Go.Sx
namespace Go.Sx
def NB:ca:=λ_ _ _ _=>False
section
variable {P:Program} {Bs:List TypeId}
theorem fz6 (f:FuncId):NB.Ok P f:=⟨λ_ _ _ _ _ _ _ _ _ h=>h.elim,λ_ _ _ _ _ _ h=>h.elim,λ_ _ _ _ h=>h.elim⟩
end
theorem hs3 {lh l:List ar} {At:ak->List ar->Prop} {r:ak} (h:l9 (λk=>k<lh.length) r) (hc:WF lh) (hK:At r lh):Mr lh.length At r (lh++l):=by
 refine⟨r,lh,.inr ⟨id,λ_ _=>rfl,D7 _,λk hk _=>(DW hk).symm,?_,λk cs ty hk=>⟨cs,?_,?_⟩,λ_ _ _ _ h=>h⟩,hK⟩
 ·exact uo (by simp only[kq];exact⟨aal (λk hk=>.inl hk) r h,trivial⟩)
 ·rw[id,DW (List.getElem?_eq_some_iff.1 hk).1];exact hk
 ·exact uo (lq (λk hk=>.inl hk) cs (hc k cs ty hk))
end Go.Sx
namespace Go.Dx
open Go.Sx
inductive V where|int (k:IntKind) (n:Int)|bool (b:Bool)|kb (b:Bool)|str (s:ByteArray)|agg (cs:List V)|tup (vs:List V)|fn (f:FuncId) (xs ys:List V)|sl (n:Nat) (f:Nat->List V)|pd (cs:List V)|pl (k off:Nat)|pe (k i j:Nat)|ss (k off n c:Nat)|gs (k n:Nat)|ns|np|any|gd (b:Bool) (v:V)|yl (l:Nat)|go (k off n:Nat)|sq (n m:Nat) (f:Nat->List V)
inductive Ax where|cells (cs:List V) (ty:TypeId)|gl (esz n:Nat) (f:Nat->List V) (ty:TypeId)|dead|hid
abbrev bS:=List (Nat×V)
abbrev be:=Nat->List V
structure RD where
 ps:List Nat
 asg:hG
 body:hG
 e0:bS
 l:Nat
inductive AN where|s (c:hG)|i (c:jq) (rd:RD)
inductive Bh (α:Type) where|ret (a:α)|br (b:Bool) (x y:Bh α)|ob (b:Bool) (x:Bh α)|obi (c d:Bool) (x:Bh α)|obp (p:Prop) (x:Bh α)|obq (a b:List V) (x:Bh α)|fail (why:Nat)|loop (fr:Nat×Nat) (body:AN) (e:bS) (h:List Ax) (g:Option Ex) (k:Ex->bS->List Ax->Option Ex->Bh α)|all (f:Nat->Bh α)|und (x y:Bh α)|asm (p:Prop) (x:Bh α)
def kp:bS->Nat->V
 |[],_=>.any|(d,v)::e,i=>cond (Nat.beq i d) v (kp e i)
def gX {α:Type}:List α->Nat->Option α
 |[],_=>none|a::_,0=>some a|_::l,i+1=>gX l i
def A6 {α:Type}:List α->Nat->α->List α
 |[],_,_=>[]|_::l,0,b=>b::l|a::l,i+1,b=>a::A6 l i b
def H2 {α:Type}:List α->α->List α
 |[],b=>[b]|a::l,b=>a::H2 l b
def yY {α:Type}:List α->List α->List α
 |[],b=>b|a::l,b=>a::yY l b
def cg {α:Type}:List α->Nat
 |[]=>0|_::l=>cg l+1
def tE {α:Type}:Nat->List α->Option (List α)
 |0,l=>some l|_+1,[]=>none|n+1,_::l=>tE n l
def yL {α:Type}:Nat->List α->Option (List α)
 |0,_=>some []|_+1,[]=>none
 |n+1,a::l=>match yL n l with|some r=>some (a::r)|none=>none
def Gx {α:Type} (l:List α) (off n:Nat):Option (List α) :=
 match tE off l with
 |some r=>yL n r|none=>none
def sh {α:Type}:List α->Nat->List α->Option (List α)
 |cs,0,[]=>some cs|[],0,_::_=>none
 |_::cs,0,x::xs=>match sh cs 0 xs with|some r=>some (x::r)|none=>none
 |[],_+1,_=>none
 |c::cs,off+1,xs=>match sh cs off xs with|some r=>some (c::r)|none=>none
def IG:ak->V
 |.int k n=>.int k n|.bool b=>.kb b|.str s=>.str s|.ptr none=>.np|.slice none 0 0=>.ns|.fn (.func f) [] []=>.fn f [] []|_=>.any
def dT (e:bS):gk->V
 |.t i=>kp e i|.k a=>IG a
def V.one:V->Bool
 |.agg _|.tup _|.any|.gd ..|.yl _=>false|_=>true
def V.fc:V->Bool
 |.agg _|.tup _|.fn ..|.gd ..|.yl _=>false|_=>true
def V.cells:V->List V
 |.agg cs=>cs|v=>[v]
def V.flat:V->Bool
 |.agg cs=>cs.all V.one|v=>v.one
section
variable {α:Type}
def jo (ctx:Bool) (v:V) (At:V->Bh α):Bh α :=
 match v with
 |.gd b v=>.obi ctx b (At v)|v=>At v
def wb (ctx:Bool) (e:bS):List gk->(List V->Bh α)->Bh α
 |[],At=>At []|x::xs,At=>jo ctx (dT e x) λv=>wb ctx e xs λvs=>At (v::vs)
def v8 (ctx:Bool) (e:bS):Option gk->(Option V->Bh α)->Bh α
 |none,At=>At none|some x,At=>jo ctx (dT e x) λv=>At (some v)
def zy (ctx:Bool) (p:Prop) [Decidable p] (x:Bh α):Bh α:=.obi ctx (decide p) x
def gr (pl:Option Nat) (h:List Ax) (o:Ax) (At:Nat->List Ax->Bh α):Bh α :=
 match pl with
 |none=>At (cg h) (H2 h o)
 |some p=>match gX h p with|some .dead=>At p (A6 h p o)|_=>.fail 1
def rV (ctx:Bool) (e:bS):List (Nat×Nat×gk)->List V->(List V->Bh α)->Bh α
 |[],z,At=>At z
 |(off,n,x)::ps,z,At=>jo ctx (dT e x) λv=>
   cond (v.flat&&Nat.beq (cg v.cells) n) (match sh z off v.cells with|some z=>rV ctx e ps z At|none=>.fail 2) (.fail 3)
def R6 (ctx:Bool) (op:BinOp) (k:IntKind) (a b:Int) (At:V->Bh α):Bh α :=
 match op with
 |.add=>At (.int k (k.wrap (a+b)))|.sub=>At (.int k (k.wrap (a-b)))|.mul=>At (.int k (k.wrap (a*b)))|.quo=>zy ctx (b≠0) (At (.int k (k.wrap (a.tdiv b))))|.rem=>zy ctx (b≠0) (At (.int k (a.tmod b)))|.eql=>At (.bool (a==b))|.neq=>At (.bool (a !=b))|.lss=>At (.bool (decide (a<b)))|.leq=>At (.bool (decide (a<=b)))|.gtr=>At (.bool (decide (b<a)))|.geq=>At (.bool (decide (b<=a)))|.and=>At (.int k (bits .and k a b))|.or=>At (.int k (bits .or k a b))|.xor=>At (.int k (bits .xor k a b))|.shl=>zy ctx (0<=b) (At (.int k (k.wrap (a*2 ^ min b.toNat k.bits))))|.shr=>zy ctx (0<=b) (At (.int k (a.fdiv (2 ^ min b.toNat k.bits))))|_=>.fail 4
def Di (ctx:Bool) (op:BinOp) (x y:V) (At:V->Bh α):Bh α :=
 match x,y with
 |.int k a,.int k' b=>match decEq k k' with|.isTrue _=>R6 ctx op k a b At|.isFalse _=>.fail 5
 |.str a,.str b=>match op with|.eql=>At (.bool (a.toList==b.toList))|.neq=>At (.bool !(a.toList==b.toList))|.add=>zy ctx (((a.size+b.size:Nat):Int)<=IntKind.i64.max) (At (.str (a++b)))|_=>.fail 6
 |_,_=>.fail 7
def pn:V->Option Bool
 |.bool b=>some b|.kb b=>some b|_=>none
mutual
def Ga (c:Bool):V->V->Option V
 |.int k a,.int k' b=>match decEq k k' with|.isTrue _=>some (.int k (cond c a b))|.isFalse _=>none
 |.bool a,y=>match pn y with|some b=>some (.bool (cond c a b))|none=>none
 |.kb a,y=>match pn y with|some b=>some (.bool (cond c a b))|none=>none
 |.str a,.str b=>some (.str (cond c a b))
 |.agg xs,.agg ys=>match Lj c xs ys with|some zs=>some (.agg zs)|none=>none
 |_,_=>none
def Lj (c:Bool):List V->List V->Option (List V)
 |[],[]=>some []
 |x::xs,y::ys=>match Ga c x y with
   |some z=>match Lj c xs ys with|some zs=>some (z::zs)|none=>none
   |none=>none
 |_,_=>none
end
def Fw:List V->List V->Option Bool
 |[],[]=>some true
 |.int k a::xs,.int k' b::ys=>match decEq k k' with
   |.isTrue _=>match Fw xs ys with|some r=>some (a==b&&r)|none=>none
   |.isFalse _=>none
 |_,_=>none
def Jj (isMax:Bool):V->List V->Option V
 |x,[]=>some x
 |.int k a,.int k' b::xs=>match decEq k k' with|.isTrue _=>Jj isMax (.int k (if isMax then max a b else min a b)) xs|.isFalse _=>none
 |_,_=>none
def ol (ctx:Bool) (x:Option V) (y d:Nat) (At:Nat->Bh α):Bh α :=
 match x with
 |none=>At d|some (.int _ i)=>zy ctx (0<=i/\i<=y) (At i.toNat)|_=>.fail 8
def WG (m l a b:Nat):Nat:=cond (Nat.beq m l) a b
def nX (esz:Nat) (l:List V):Bool:=Nat.beq (cg l) esz&&l.all V.one
def dw:Nat->(Nat->Bool)->Bool
 |0,_=>true|n+1,p=>dw n p&&p n
def F8 (h:List Ax) (esz:Nat):V->Option (Nat×(Nat->List V)×Bool)
 |.ns=>some (0,λ_=>[],true)|.sl n f=>some (n,f,dw n λi=>nX esz (f i))
 |.gs k n=>match gX h k with|some (.gl e n' f _)=>cond (Nat.beq e esz) (some (n,f,Nat.ble n n')) none|_=>none
 |.ss k off n _=>match gX h k with
   |some (.cells cs _)=>match Gx cs off (n*esz) with
     |some ds=>cond (ds.all V.one) (match n with|1=>some (1,λ_=>ds,true)|n=>some (n,λi=>(ds.drop (i*esz)).take esz,true)) none
     |none=>none
   |_=>none
 |.go k off n=>match gX h k with|some (.gl e n' f _)=>cond (Nat.beq e esz) (some (n,λi=>f (off+i),Nat.ble (off+n) n')) none|_=>none
 |_=>none
def bb (n:Nat) (f g:be) (i:Nat):List V:=cond (Nat.blt i n) (f i) (g (i-n))
abbrev CF (α:Type):=FuncId->List V->List Ax->(V->List Ax->Bh α)->Bh α
def NL (pl:Option Nat) (h:List Ax) (ty:TypeId) (esz bytes:Nat) (s x:V) (At:V->List Ax->Bh α):Bh α :=
 match F8 h esz x with
 |none=>.fail 10
 |some (m,g,Pw)=>.ob Pw (match s with
   |.ns=>.ob (decide (m*bytes<=140737488355328)&&!Nat.beq bytes 0) (gr pl h (.gl esz m g ty) λp h=>At (.gs p m) h)
   |.gs k n=>match gX h k with
     | some (.gl e n' f ty')=>cond (Nat.beq e esz&&Nat.beq ty ty') (.ob (decide (n<=n'/\(n+m)*bytes<=140737488355328)&&!Nat.beq bytes 0)
        (gr pl (A6 h k .hid) (.gl esz (n+m) (bb n f g) ty) λp h=>At (.gs p (n+m)) h)) (.fail 11)
     |_=>.fail 12
   |.ss k off n c=>match F8 h esz (.ss k off n c) with
     |some (_,f,_)=>match n,c with
       |0,0=>match gX h k with|some (.cells [] ty')=>cond (Nat.beq ty ty'&&Nat.beq off 0) (.ob (decide (m*bytes<=140737488355328)&&!Nat.beq bytes 0) (gr pl (A6 h k .hid) (.gl esz m g ty) λp h=>At (.gs p m) h)) (.fail 15)|_=>.fail 16
       |_,_=>match x with|.go _ _ _=>.br (Nat.beq m 0) (.ob (Nat.ble n c) (At (.ss k off n c) h)) (.ob (decide (c<n+m/\(n+m)*bytes<=140737488355328)&&!Nat.beq bytes 0) (gr pl h (.gl esz (n+m) (bb n f g) ty) λp h=>At (.gs p (n+m)) h))|_=>.ob (decide (c<n+m/\(n+m)*bytes<=140737488355328)&&!Nat.beq bytes 0) (gr pl h (.gl esz (n+m) (bb n f g) ty) λp h=>At (.gs p (n+m)) h)
     |none=>.fail 13
   |_=>.fail 14)
def KH (h:List Ax):V->Option V
 |.pl k off=>match gX h k with|some (.cells cs _)=>gX cs off|_=>none
 |.pe k i j=>match gX h k with|some (.gl _ _ f _)=>gX (f i) j|_=>none
 |.pd cs=>gX cs 0|_=>none
def V4 (h:List Ax) (n:Nat):V->Option (List V)
 |.pl k off=>match gX h k with|some (.cells cs _)=>Gx cs off n|_=>none
 |.pe k i j=>match gX h k with|some (.gl _ _ f _)=>Gx (f i) j n|_=>none
 |.pd cs=>yL n cs|_=>none
def Li (l:List V) (i:Nat):V:=match gX l i with|some v=>v|none=>.any
def YG (cs:List V) (j:Nat) (xs:List V):Nat->Nat->List V
 |_,0=>[]|t,m+1=>cond (Nat.ble j t&&Nat.blt t (j+cg xs)) (Li xs (t-j)) (Li cs t)::YG cs j xs (t+1) m
def KV (e:Nat) (cs:List V) (j:Nat) (xs:List V):Option (List V):=cond (Nat.ble (j+cg xs) e) (some (YG cs j xs 0 e)) none
def WP (e:Nat) (f:be) (i j:Nat) (xs:List V):Nat->List V:=λi'=>cond (Nat.beq i' i) (YG (f i) j xs 0 e) (f i')
def XP (h:List Ax) (xs:List V):V->Option (List Ax)
 |.pl k off=>match gX h k with
   |some (.cells cs ty)=>match sh cs off xs with|some cs=>some (A6 h k (.cells cs ty))|none=>none
   |_=>none
 |.pe k i j=>match gX h k with|some (.gl e n f ty)=>cond (Nat.ble (j+cg xs) e) (some (A6 h k (.gl e n (WP e f i j xs) ty))) none|_=>none
 |_=>none
def ayj:Nat->List V
 |0=>[]|n+1=>.int .i64 0::ayj n
def Xb (ctx:Bool) (h:List Ax) (v:V) (x:Bh α):Bh α :=
 match v with
 |.pe k i _=>match gX h k with|some (.gl _ n _ _)=>zy ctx (i<n) x|_=>.fail 17
 |_=>x
def CK (cf:CF α) (ctx:Bool) (pl:Option Nat) (op:l7) (e:bS) (h:List Ax) (At:V->List Ax->Bh α):Bh α :=
 match op with
 |.mov x=>jo ctx (dT e x) λv=>At v h
 |.pick c a b=>jo ctx (dT e c) λc=>match c with
   |.kb true=>jo ctx (dT e a) λv=>At v h
   |.kb false=>jo ctx (dT e b) λv=>At v h
   |.bool c=>jo (ctx&&c) (dT e a) λx=>jo (ctx&&!c) (dT e b) λy=>match Ga c x y with
     |some v=>At v h
     |none=>.br c (At x h) (At y h)
   |.tup _=>.obi ctx false (At .any h)
   |_=>.fail 20
 |.new ty z=>gr pl h (.cells (z.map IG) ty) λp h=>At (.pl p 0) h
 |.box ty x=>jo ctx (dT e x) λv=>cond v.flat (gr pl h (.cells v.cells ty) λp h=>At (.pl p 0) h) (.fail 21)
 |.agg z ps=>rV ctx e ps (z.map IG) λcs=>At (.agg cs) h
 |.bsl ty n z ps=>rV ctx e ps (z.map IG) λcs=>gr pl h (.cells cs ty) λp h=>At (.ss p 0 n n) h
 |.ld a=>jo ctx (dT e a) λa=>Xb ctx h a (match KH h a with
   |some v=>At v h
   |none=>.fail 22)
 |.lds n a=>jo ctx (dT e a) λa=>Xb ctx h a (match V4 h n a with
   |some cs=>At (.agg cs) h
   |none=>.fail 23)
 |.st n a x=>jo ctx (dT e a) λa=>jo ctx (dT e x) λv=>Xb ctx h a (cond (v.flat&&Nat.beq (cg v.cells) n) (match XP h v.cells a with
    |some h=>At (.tup []) h
    |none=>.fail 24) (.fail 25))
 |.nz x=>jo ctx (dT e x) λv=>match v with
   |.pl k o=>At (.pl k o) h
   |.pe k i j=>At (.pe k i j) h
   |.pd cs=>At (.pd cs) h
   |.fn f a b=>At (.fn f a b) h
   |_=>.fail 26
 |.bin op x y=>jo ctx (dT e x) λx=>jo ctx (dT e y) λy=>Di ctx op x y λv=>At v h
 |.eqa neg n x y=>jo ctx (dT e x) λx=>jo ctx (dT e y) λy=>match x,y with
   |.agg xs,.agg ys=>match Fw xs ys with
     |some b=>cond (Nat.beq (cg xs) n) (At (.bool (if neg then !b else b)) h) (.fail 27)
     |none=>.fail 28
   |_,_=>.fail 29
 |.eqb neg x y=>jo ctx (dT e x) λx=>jo ctx (dT e y) λy=>match pn x,pn y with
   |some a,some b=>At (.bool (if neg then !(a==b) else a==b)) h
   |_,_=>.fail 30
 |.un op x=>jo ctx (dT e x) λx=>match op,x with
   |.neg,.int k n=>At (.int k (k.wrap (0-n))) h
   |.not,.bool b=>At (.bool !b) h
   |.not,.kb b=>At (.kb !b) h
   |_,_=>.fail 31
 |.conv k x=>jo ctx (dT e x) λx=>match x with
   |.int _ n=>At (.int k (k.wrap n)) h
   |_=>.fail 32
 |.mkf f xs ys=>match f with
   |.func f=>wb ctx e xs λus=>wb ctx e ys λvs=>At (.fn f us vs) h
   |_=>.fail 33
 |.fa off x=>jo ctx (dT e x) λx=>match x with
   |.pl k o=>At (.pl k (o+off)) h
   |.pe k i j=>At (.pe k i (j+off)) h
   |.pd cs=>match tE off cs with
     |some cs=>At (.pd cs) h
     |none=>.fail 34
   |_=>.fail 35
 |.fld off n x=>jo ctx (dT e x) λx=>match x with
   |.agg cs=>match n with
     |some n=>match Gx cs off n with
       |some ds=>At (.agg ds) h
       |none=>.fail 36
     |none=>match gX cs off with
       |some v=>At v h
       |none=>.fail 37
   |_=>.fail 38
 |.iaA n esz x ix=>jo ctx (dT e x) λx=>jo ctx (dT e ix) λix=>match x,ix with
   |.pl k o,.int _ i=>zy ctx (0<=i/\i<n) (At (.pl k (o+i.toNat*esz)) h)
   |.pe k j o,.int _ i=>zy ctx (0<=i/\i<n) (At (.pe k j (o+i.toNat*esz)) h)
   |.pd cs,.int _ i=>match tE (i.toNat*esz) cs with
     |some cs=>zy ctx (0<=i/\i<n) (At (.pd cs) h)
     |none=>.fail 39
   |_,_=>.fail 40
 |.iaS esz x ix=>jo ctx (dT e x) λx=>jo ctx (dT e ix) λix=>match x,ix with
   |.sl n f,.int _ i=>cond (Nat.beq (cg (f i.toNat)) esz) (zy ctx (0<=i/\i<n) (At (.pd (f i.toNat)) h)) (.fail 41)
   |.ss k o n _,.int _ i=>zy ctx (0<=i/\i<n) (At (.pl k (o+i.toNat*esz)) h)
   |.gs k n,.int _ i=>match gX h k with
     |some (.gl e n' _ _)=>cond (Nat.beq e esz) (zy ctx (0<=i/\i<n/\n<=n') (At (.pe k i.toNat 0) h)) (.fail 42)
     |_=>.fail 43
   |.go k off n,.int _ i=>match gX h k with
     |some (.gl e n' _ _)=>cond (Nat.beq e esz) (zy ctx (0<=i/\i<n/\off+n<=n') (At (.pe k (off+i.toNat) 0) h)) (.fail 42)
     |_=>.fail 43
   |.ns,.int _ i=>zy ctx (0<=i/\i<(0:Int)) (At (.pd (ayj esz)) h)
   |_,_=>.fail 44
 |.ixA n esz sz x ix=>jo ctx (dT e x) λx=>jo ctx (dT e ix) λix=>match x,ix with
   |.agg cs,.int _ i=>match sz with
     |some sz=>match Gx cs (i.toNat*esz) sz with
       |some ds=>zy ctx (0<=i/\i<n) (At (.agg ds) h)
       |none=>.fail 45
     |none=>match gX cs (i.toNat*esz) with
       |some v=>zy ctx (0<=i/\i<n) (At v h)
       |none=>.fail 46
   |_,_=>.fail 47
 |.ixS x ix=>jo ctx (dT e x) λx=>jo ctx (dT e ix) λix=>match x,ix with
   |.str s,.int _ i=>zy ctx (0<=i/\i<s.size) (At (.int .u8 ((s.data.toList.getD i.toNat 0).toNat:Int)) h)
   |_,_=>.fail 48
 |.len x=>jo ctx (dT e x) λx=>match x with
   |.sl n _=>.asm (ctx=true->n<=9223372036854775807) (At (.int .i64 n) h)
   |.ss _ _ n _=>At (.int .i64 n) h
   |.gs _ n=>At (.int .i64 n) h
   |.ns=>At (.int .i64 0) h
   |.go _ _ n=>At (.int .i64 n) h
   |_=>.fail 49
 |.lenT x=>jo ctx (dT e x) λx=>match x with
   |.str s=>At (.int .i64 s.size) h
   |_=>.fail 50
 |.lenA n=>At (.int .i64 n) h
 |.mm b x xs=>jo ctx (dT e x) λx=>wb ctx e xs λxs=>match Jj b x xs with
   |some v=>At v h
   |none=>.fail 51
 |.ext x i=>jo ctx (dT e x) λx=>match x with
   |.tup vs=>match gX vs i with
     |some v=>At v h
     |none=>.fail 52
   |_=>.fail 53
 |.slS esz x lo hi mx=>jo ctx (dT e x) λx=>v8 ctx e lo λlo=>v8 ctx e hi λhi=>v8 ctx e mx λmx=>match x with
   |.sl n f=>match mx with
     |none=>cond (Nat.beq (cg (f 0)) esz) (ol ctx hi n n λb=>ol ctx lo b 0 λa=>At (.sl (b-a) (λi=>f (a+i))) h) (.fail 19)
     |some _=>.fail 54
   |.gs k n=>match mx,lo with
     |none,none=>ol ctx hi n n λb=>At (.gs k b) h
     |none,some lo=>match gX h k with
       |some (.gl e _ _ _)=>cond (Nat.beq e esz) (ol ctx hi n n λb=>ol ctx (some lo) b 0 λa=>At (.go k a (b-a)) h) (.fail 104)
       |_=>.fail 105
     |_,_=>.fail 55
   |.ss k o n c=>ol ctx mx c c λm=>ol ctx hi m n λb=>ol ctx lo b 0 λa=>At (.ss k (WG m a o (o+a*esz)) (b-a) (m-a)) h
   |.ns=>match mx with
     |none=>ol ctx hi 0 0 λb=>ol ctx lo b 0 λ_=>At .ns h
     |some _=>.fail 56
   |_=>.fail 57
 |.slA n esz x lo hi mx=>jo ctx (dT e x) λx=>v8 ctx e lo λlo=>v8 ctx e hi λhi=>v8 ctx e mx λmx=>match x with
   |.pl k o=>ol ctx mx n n λm=>ol ctx hi m n λb=>ol ctx lo b 0 λa=>At (.ss k (WG m a o (o+a*esz)) (b-a) (m-a)) h
   |_=>.fail 58
 |.slT x lo hi=>jo ctx (dT e x) λx=>v8 ctx e lo λlo=>v8 ctx e hi λhi=>match x with
   |.str s=>ol ctx hi s.size s.size λb=>ol ctx lo b 0 λa=>At (.str (s.extract a b)) h
   |_=>.fail 59
 |.app ty esz bytes z s x=>jo ctx (dT e s) λs=>jo ctx (dT e x) λx=>cond (Nat.beq (cg z) esz) (NL pl h ty esz bytes s x At) (.fail 18)
 |.mks ty n cs=>gr pl h (.cells (cs.map IG) ty) λp h=>At (.ss p 0 n n) h
 |.call f xs=>wb ctx e xs λvs=>cf f vs h At
 |.callv x xs=>jo ctx (dT e x) λx=>wb ctx e xs λvs=>match x with
   |.fn f a b=>cf f (yY (yY a vs) b) h At
   |_=>.fail 60
 |.isn neg x=>jo ctx (dT e x) λx=>match x with
   |.ns=>At (.kb (!neg)) h
   |.ss ..=>At (.kb neg) h
   |.sl n _=>.und (.asm (n=0) (At (.kb (!neg)) h)) (At (.kb neg) h)
   |.gs _ n=>.und (.asm (n=0) (At (.kb (!neg)) h)) (At (.kb neg) h)
   |_=>.fail 100
 |.clr esz z x=>jo ctx (dT e x) λx=>match x with
   |.go k off n=>match gX h k with
     |some (.gl e n' f ty)=>cond (Nat.beq e esz&&nX e (z.map IG)) (.ob (decide (0<n/\off+n<=n')) (At (.tup []) (A6 h k (.gl e n' (λi=>cond (Nat.ble off i&&Nat.blt i (off+n)) (z.map IG) (f i)) ty)))) (.fail 101)
     |_=>.fail 102
   |_=>.fail 103
def mC:l7->Bool
 |.new ..|.box ..|.bsl ..|.st ..|.app ..|.mks ..|.call ..|.callv ..|.clr ..=>false|_=>true
def eM (e:bS) (d:Option Nat) (v:V):bS :=
 match d with
 |some d=>(d,v)::e|none=>e
def gB (b want:Bool):Bool:=match want with|true=>b|false=>!b
def g9 (cf : CF α):List ji->bS->List Ax->(bS->List Ax->Bh α)->Bh α
 |[],e,h,At=>At e h
 |o::rest,e,h,At=>
   match o.guard with
   |none=>CK cf true none o.op e h λv h=>g9 cf rest (eM e o.dst v) h At
   |some (d,want)=>
     match kp e d with
     |.kb b=>match decEq b want with
       |.isTrue _=>CK cf true none o.op e h λv h=>g9 cf rest (eM e o.dst v) h At
       |.isFalse _=>g9 cf rest (eM e o.dst (.tup [])) h At
     |.tup _=>g9 cf rest (eM e o.dst (.tup [])) h At|.int ..=>g9 cf rest (eM e o.dst (.tup [])) h At
     |.bool b=>match mC o.op with
       |true=>CK cf (gB b want) none o.op e h λv _=>g9 cf rest (eM e o.dst (.gd (gB b want) v)) h At
       | false=>.br (gB b want) (CK cf true none o.op ((d,.kb want)::e) h λv h=>g9 cf rest (eM ((d,.kb want)::e) o.dst v) h At)
          (g9 cf rest (eM ((d,.kb (!want))::e) o.dst (.tup [])) h At)
     |.gd c v=>match pn v with
       |none=>match v with|.tup _=>g9 cf rest (eM e o.dst (.tup [])) h At|_=>.fail 62
       |some b=>match mC o.op with
         |true=>CK cf (c&&gB b want) none o.op e h λv _=>g9 cf rest (eM e o.dst (.gd (c&&gB b want) v)) h At
         | false=>.br (c&&gB b want) (CK cf true none o.op ((d,.kb want)::e) h λv h=>g9 cf rest (eM ((d,.kb want)::e) o.dst v) h At)
            (g9 cf rest (eM e o.dst (.tup [])) h At)
     |_=>.fail 61
end
def y4 (k:Nat):List Nat->Bool
 |[]=>false|x::l=>cond (Nat.beq k x) true (y4 k l)
def G1:List Nat->List Nat->Bool
 |[],_=>true|k::l,QW=>y4 k QW&&G1 l QW
def Mj:List Nat->List Nat->Bool
 |[],_=>true|k::l,QW=>!y4 k QW&&Mj l QW
def fj (h:List Ax) (k:Nat):Bool :=
 match gX h k with
 |some (.cells ..)=>true|some (.gl ..)=>true|_=>false
def kF (h:List Ax):V->Option (List Nat)
 |.pl k _=>cond (fj h k) (some [k]) none|.pe k _ _=>cond (fj h k) (some [k]) none|.ss k _ _ _=>cond (fj h k) (some [k]) none|.gs k _=>cond (fj h k) (some [k]) none|.ns=>some []|_=>none
def IJ (h:List Ax) (e:bS) (H:Nat):Eo->Option (List Nat)
 |.fresh r=>some [H+r]|.slot s=>kF h (kp e s)
 |.load s off=>match kp e s with
   |.pl k o=>match KH h (.pl k (o+off)) with|some v=>kF h v|none=>none
   |_=>none
def uY (h:List Ax) (e:bS) (H:Nat):List Eo->Option (List Nat)
 |[]=>some []
 |x::l=>match IJ h e H x,uY h e H l with|some a,some b=>some (yY a b)|_,_=>none
def va (h:List Ax) (e:bS) (H:Nat):List jd->Option (List (List Nat))
 |[]=>some []
 |d::l=>match uY h e H d.ws,va h e H l with|some a,some b=>some (a::b)|_,_=>none
def dY (Ws:List (List Nat)) (i:Nat):List Nat:=match gX Ws i with|some l=>l|none=>[]
def o4 (Ws:List (List Nat)):List Nat->List Nat
 |[]=>[]|u::un=>yY (dY Ws u) (o4 Ws un)
def vb (Ws:List (List Nat)):List jd->Nat->Bool
 |[],_=>true|d::l,i=>Mj (dY Ws i) (o4 Ws d.un)&&vb Ws l (i+1)
def km (X:List Nat):List Ax->Nat->List Ax
 |[],_=>[]|o::h,k=>cond (y4 k X) Ax.hid o::km X h (k+1)
def kz (X:List Nat) (h:List Ax):List Ax:=match X with|[]=>h|_=>km X h 0
def mK (QW:List Nat) (l:List Ax):List Ax->Nat->List Ax
 |[],_=>[]
 |o::h,k=>cond (y4 k QW) (match gX l k with|some o'=>o'|none=>o) o::mK QW l h (k+1)
def Hc (QW:List Nat) (h l:List Ax):List Ax:=mK QW l h 0
def xX (Ws:List (List Nat)) (QY:List Nat):List jd->Nat->Nat->Bool
 |[],_,_=>true
 |d::l,i,j=>cond (Nat.blt i j) ((match d.rk with|none=>true|some _=>Mj (dY Ws i) QY||G1 (dY Ws i) QY)&&xX Ws QY l (i+1) j) true
def Ad (Ws:List (List Nat)) (all:List jd):List jd->Nat->Bool
 |[],_=>true|d::l,j=>(xX Ws (dY Ws j) all 0 j&&xX Ws (o4 Ws d.un) all 0 j)&&Ad Ws all l (j+1)
def undead:List Ax->List Ax
 |[]=>[]
 |o::h=>(match o with|.dead=>.hid|o=>o)::undead h
def deads:Nat->List Ax
 |0=>[]|n+1=>.dead::deads n
def KI (h:List Ax) (e:bS) (pl:Option Nat):l7->Option (List Nat)
 |.st _ a _=>kF h (dT e a)
 |.app _ _ _ _ s _=>match kF h (dT e s),pl with|some l,some p=>some (p::l)|_,_=>none
 |.new ..|.box ..|.bsl ..|.mks ..=>match pl with|some p=>some [p]|none=>none
 |.call ..|.callv ..=>some []|.clr ..=>none|_=>some []
def Lf (pl:Option Nat) (l:List Nat):List Nat:=match pl with|some p=>p::l|none=>l
section
variable {α:Type}
abbrev CP (α:Type):=Bool->FuncId->List V->List Ax->(V->Bh α)->Bh α
def Jd (cp:CP α) (Ws:List (List Nat)) (H:Nat) (d:jd) (i:Nat) (e:bS) (h:List Ax) (At:V->List Ax->Bh α):Bh α :=
 match mC d.o.op with
 |true=>CK (λf vs h At=>cp false f vs h λv=>At v h) true none d.o.op e (kz (o4 Ws d.un) h) λv _=>At v h
 |false=>match KI (kz (o4 Ws d.un) h) e (d.rk.map (H+·)) d.o.op with|none=>.fail 63|some l=>cond (G1 (Lf (d.rk.map (H+·)) l) (dY Ws i)) (CK (λf vs h At=>cp false f vs h λv=>At v h) true (d.rk.map (H+·)) d.o.op e (kz (o4 Ws d.un) h) λv l=>At v (Hc (dY Ws i) h l)) (.fail 64)
def fT (cp : CP α) (Ws:List (List Nat)) (H:Nat):List jd->Nat->bS->List Ax->(bS->List Ax->Bh α)->Bh α
 |[],_,e,h,At=>At e h
 |d::rest,i,e,h,At=>
   match d.o.guard with
   |none=>Jd cp Ws H d i e h λv h=>fT cp Ws H rest (i+1) (eM e d.o.dst v) h At
   |some (g,want)=>
     match kp e g with
     |.kb b=>match decEq b want with
       |.isTrue _=>Jd cp Ws H d i e h λv h=>fT cp Ws H rest (i+1) (eM e d.o.dst v) h At
       |.isFalse _=>fT cp Ws H rest (i+1) (eM e d.o.dst (.tup [])) h At
     |.tup _=>fT cp Ws H rest (i+1) (eM e d.o.dst (.tup [])) h At|.int ..=>fT cp Ws H rest (i+1) (eM e d.o.dst (.tup [])) h At
     |.bool b=>match mC d.o.op with
       |true=>CK (λf vs h At=>cp false f vs h λv=>At v h) (gB b want) none d.o.op e (kz (o4 Ws d.un) h) λv _=>fT cp Ws H rest (i+1) (eM e d.o.dst (.gd (gB b want) v)) h At
       | false=>.br (gB b want) (Jd cp Ws H d i ((g,.kb want)::e) h λv h=>fT cp Ws H rest (i+1) (eM ((g,.kb want)::e) d.o.dst v) h At)
          (fT cp Ws H rest (i+1) (eM ((g,.kb (!want))::e) d.o.dst (.tup [])) h At)
     |.gd c v=>match pn v with
       |none=>match v with|.tup _=>fT cp Ws H rest (i+1) (eM e d.o.dst (.tup [])) h At|_=>.fail 65
       |some b=>match mC d.o.op with
         |true=>CK (λf vs h At=>cp false f vs h λv=>At v h) (c&&gB b want) none d.o.op e (kz (o4 Ws d.un) h) λv _=>fT cp Ws H rest (i+1) (eM e d.o.dst (.gd (c&&gB b want) v)) h At
         | false=>.br (c&&gB b want) (Jd cp Ws H d i ((g,.kb want)::e) h λv h=>fT cp Ws H rest (i+1) (eM ((g,.kb want)::e) d.o.dst v) h At)
            (fT cp Ws H rest (i+1) (eM e d.o.dst (.tup [])) h At)
     |_=>.fail 66
def xk (cp:CP α) (ds:List jd) (e:bS) (h:List Ax) (At:bS->List Ax->Bh α):Bh α :=
 match va (undead h) e (cg h) ds with
 |none=>.fail 67|some Ws=>cond (vb Ws ds 0&&Ad Ws ds ds 0) (fT cp Ws (cg h) ds 0 e (yY (undead h) (deads (Rf ds))) At) (.fail 68)
def LU (ev:bS->List Ax->(Ex->bS->List Ax->Bh α)->Bh α):Nat->bS->List Ax->(Ex->bS->List Ax->Bh α)->Bh α
 |0,_,_,_=>.fail 90
 |n+1,e,h,At=>ev e h λx e h=>match x with|.normal=>LU ev n e h At|.exit i=>At (.exit i) e h|.ret=>At .ret e h
def Yk (ev:bS->List Ax->Option Ex->(Ex->bS->List Ax->Option Ex->Bh α)->Bh α):Nat->bS->List Ax->Option Ex->(Ex->bS->List Ax->Option Ex->Bh α)->Bh α
 |0,_,_,_,_=>.fail 91
 |n+1,e,h,g,At=>ev e h g λx e h g=>match x with|.normal=>Yk ev n e h g At|.exit i=>At (.exit i) e h g|.ret=>At .ret e h g
def rS:bS->List Nat->List V->bS
 |e,p::ps,x::xs=>rS ((p,x)::e) ps xs|e,_,_=>e
abbrev YV (α:Type):=List V->List Ax->(Ex->List Ax->Bh α)->Bh α
def Mb (l:Nat) (QY:YV α) (t:Nat) (d:Option Nat) (xs:List gk) (e:bS) (h:List Ax) (g:Option Ex) (Qv:bS->List Ax->Option Ex->Bh α):Bh α:=jo true (kp e t) λv=>match g,v with
 |none,.yl l'=>.obq [.yl l'] [.yl l] (wb true e xs λvs=>QY vs h λx h=>match x with|.normal=>Qv (eM e d (.kb true)) h none|.exit i=>Qv (eM e d (.kb false)) h (some (.exit i))|.ret=>Qv (eM e d (.kb false)) h (some .ret))
 |_,_=>.fail 92
def dR (cf:CF α) (l:Nat) (QY:YV α):List o3->bS->List Ax->Option Ex->(bS->List Ax->Option Ex->Bh α)->Bh α
 |[],e,h,g,At=>At e h g|.op o::rest,e,h,g,At=>g9 cf [o] e h λe h=>dR cf l QY rest e h g At
 |.yld t d xs::rest,e,h,g,At=>match g,kp e t with
   |none,.yl l'=>.obq [.yl l'] [.yl l] (wb true e xs λvs=>QY vs h λx h=>match x with|.normal=>dR cf l QY rest (eM e d (.kb true)) h none At|.exit i=>dR cf l QY rest (eM e d (.kb false)) h (some (.exit i)) At|.ret=>dR cf l QY rest (eM e d (.kb false)) h (some .ret) At)
   |_,_=>.fail 92
 |.yldG d want t dst xs::rest,e,h,g,At=>match kp e d with
   |.kb b=>match decEq b want with
     |.isTrue _=>Mb l QY t dst xs e h g λe h g=>dR cf l QY rest e h g At
     |.isFalse _=>dR cf l QY rest (eM e dst (.tup [])) h g At
   |.tup _=>dR cf l QY rest (eM e dst (.tup [])) h g At|.int ..=>dR cf l QY rest (eM e dst (.tup [])) h g At|.bool b=>.br (gB b want) (Mb l QY t dst xs ((d,.kb want)::e) h g λe h g=>dR cf l QY rest e h g At) (dR cf l QY rest (eM ((d,.kb (!want))::e) dst (.tup [])) h g At)
   |.gd c v=>match pn v with|none=>.fail 104|some b=>.br (c&&gB b want) (Mb l QY t dst xs ((d,.kb want)::e) h g λe h g=>dR cf l QY rest e h g At) (dR cf l QY rest (eM e dst (.tup [])) h g At)
   |_=>.fail 105
abbrev l8:=Nat->Nat
def oF (cf:CF α) (cp:CP α) (un:l8) (fr:Nat×Nat) (rd:RD) (QY:YV α):Nat->jq->bS->List Ax->Option Ex->(Ex->bS->List Ax->Option Ex->Bh α)->Bh α
 |_,.skip,e,h,g,At=>At .normal e h g|_,.reg ops,e,h,g,At=>dR cf rd.l QY ops e h g (At .normal)|_,.draw ds,e,h,g,At=>xk cp ds e h λe h=>At .normal e h g
 |_,.drawY ds xs,e,h,g,At=>xk cp ds e h λe h=>dR cf rd.l QY xs e h g (At .normal)
 |bi,.seq a b,e,h,g,At=>oF cf cp un fr rd QY bi a e h g λx e h g=>match x with|.normal=>oF cf cp un fr rd QY bi b e h g At|.exit i=>At (.exit i) e h g|.ret=>At .ret e h g
 |bi,.cond c a b,e,h,g,At=>match dT e c with
   |.kb true=>oF cf cp un fr rd QY bi a e h g At|.kb false=>oF cf cp un fr rd QY bi b e h g At
   |.bool t=>match c with|.t s=>.br t (oF cf cp un fr rd QY bi a ((s,.kb true)::e) h g At) (oF cf cp un fr rd QY bi b ((s,.kb false)::e) h g At)|_=>.br t (oF cf cp un fr rd QY bi a e h g At) (oF cf cp un fr rd QY bi b e h g At)
   |_=>.fail 69
 |_,.block id b,e,h,g,At=>oF cf cp un fr rd QY id b e h g λx e h g=>match x with|.exit i=>cond (Nat.beq i id) (At .normal e h g) (At (.exit i) e h g)|.normal=>At .normal e h g|.ret=>At .ret e h g
 |bi,.loop b,e,h,g,At=>match un bi with|0=>.loop fr (.i b rd) e h g At|n+1=>Yk (oF cf cp un fr rd QY bi b) (n+1) e h g At
 |_,.exit id,e,h,g,At=>At (.exit id) e h g|_,.ret,e,h,g,At=>At .ret e h g|bi,.scope b,e,h,g,At=>oF cf cp un fr rd QY bi b e h g At
def arR (At:Ex->bS->List Ax->Bh α) (e:bS):Ex->bS->List Ax->Option Ex->Bh α
 |.exit _,_,_,_=>.fail 93|.normal,_,h,none=>At .normal e h|.normal,_,h,some x=>At x e h|.ret,_,h,none=>At .normal e h|.ret,_,h,some x=>At x e h
def Mk:List V->Nat->bS
 |[],_=>[]|v::vs,i=>(i,v)::Mk vs (i+1)
def Fi (cf:CF α):OT->bS->List Ax->(bS->List Ax->Bh α)->Bh α
 |.done,e,h,At=>At e h|.op o r,e,h,At=>g9 cf [o] e h λe h=>Fi cf r e h At
 |.alt a b,e,h,At=>.und (Fi cf a e h At) (Fi cf b e h At)
def vj (cf:CF α) (cp:CP α) (un:l8):Nat×Nat->Nat->hG->bS->List Ax->(Ex->bS->List Ax->Bh α)->Bh α
 |_,_,.skip,e,h,At=>At .normal e h|_,_,.reg ops,e,h,At=>g9 cf ops e h (At .normal)|_,_,.draw ds,e,h,At=>xk cp ds e h (At .normal)|_,_,.allo t,e,h,At=>Fi cf t e h (At .normal)|_,_,.alloq t,e,h,At=>Fi (λf vs h At=>cp true f vs h λv=>At v h) t e h (At .normal)
 |fr,bi,.seq a b,e,h,At=>vj cf cp un fr bi a e h λx e h=>match x with|.normal=>vj cf cp un fr bi b e h At|.exit i=>At (.exit i) e h|.ret=>At .ret e h
 |fr,bi,.cond c a b,e,h,At=>match dT e c with
   |.kb true=>vj cf cp un fr bi a e h At|.kb false=>vj cf cp un fr bi b e h At
   |.bool t=>match c with|.t s=>.br t (vj cf cp un fr bi a ((s,.kb true)::e) h At) (vj cf cp un fr bi b ((s,.kb false)::e) h At)|_=>.br t (vj cf cp un fr bi a e h At) (vj cf cp un fr bi b e h At)
   |_=>.fail 69
 |fr,_,.block id b,e,h,At=>vj cf cp un fr id b e h λx e h=>match x with|.exit i=>cond (Nat.beq i id) (At .normal e h) (At (.exit i) e h)|.normal=>At .normal e h|.ret=>At .ret e h
 |fr,bi,.loop b,e,h,At=>match un bi with
   |0=>.loop fr (.s b) e h none λx e h _=>At x e h
   |n+1=>LU (vj cf cp un fr bi b) (n+1) e h At
 |_,_,.exit id,e,h,At=>At (.exit id) e h|_,_,.ret,e,h,At=>At .ret e h|fr,bi,.scope b,e,h,At=>vj cf cp un fr bi b e h At
 |fr,bi,.range g ps asg body C3,e,h,At=>match dT e g with
   |.fn f [] ys=>match DR C3 f with
     |some it=>cond (Nat.ble (cg ys+1) it.ntmps) (.all λl=>oF cf cp un (fr.1,cg h) ⟨ps,asg,body,e,l⟩ (λvs h At=>cond (Nat.beq (cg vs) (cg ps)) (vj cf cp un (fr.1,cg h) bi asg (rS e ps vs) h λx e1 M=>match x with
           |.normal=>vj cf cp un (fr.1,cg h) bi body e1 M λx _ N=>At x N
           |_=>.fail 94) (.fail 95)) 0 it.body ((0,.yl l)::Mk ys 1) h none (arR At e)) (.fail 96)
     |none=>.fail 97
   |_=>.fail 98
def vh (e:bS) (h:List Ax):List CM->(List V->Bh α)->Bh α
 |[],At=>At []|.tmp t::l,At=>jo true (kp e t) λv=>vh e h l λvs=>At (v::vs)
 |.cell t n::l,At=>match n with
   |none=>Xb true h (kp e t) (match KH h (kp e t) with
     |some v=>vh e h l λvs=>At (v::vs)
     |none=>.fail 70)
   |some n=>Xb true h (kp e t) (match V4 h n (kp e t) with
     |some cs=>vh e h l λvs=>At (.agg cs::vs)
     |none=>.fail 71)
def uQ:List V->V
 |[v]=>v|vs=>.tup vs
def o0 (cf:CF α) (cp:CP α) (un:l8) (lv:Nat) (sf:aK) (args:List V) (h:List Ax) (At:V->List Ax->Bh α):Bh α :=
 cond (Nat.ble (cg args) sf.ntmps) (vj cf cp un (lv,cg h) 0 sf.body (Mk args 0) h λx e h=>match x with|.exit _=>.fail 72|_=>vh e h sf.res λvs=>At (uQ vs) (undead h)) (.fail 73)
def b5 (cs:List V) (off e:Nat):Nat->List V:=λi=>(cs.drop (off+i*e)).take e
def tR (v:V):V:=cond v.fc v .any
def mF (h:List Ax):Nat->V->V
 |0,_=>.any
 |fu+1,v=>match v with
   |.int k n=>.int k n|.bool b=>.bool b|.kb b=>.bool b|.str s=>.str s|.sl n f=>.sl n f|.sq n m f=>.sq n m f|.pd cs=>.pd cs|.ns=>.sl 0 λ_=>[]
   |.agg cs=>.agg (cs.map (mF h fu))|.fn f xs ys=>.fn f (xs.map (mF h fu)) (ys.map (mF h fu))
   |.pl k off=>match gX h k with|some (.cells cs _)=>cond (Nat.ble off (cg cs)) (.pd ((cs.drop off).map λv=>tR (mF h fu v))) .any|_=>.any
   |.gs k n=>match gX h k with|some (.gl _ n' f _)=>cond (Nat.ble n n') (.sl n λi=>(f i).map λv=>tR (mF h fu v)) .any|_=>.any
   |.ss k off n c=>match gX h k with
     | some (.cells cs _)=>cond (Nat.ble n 9223372036854775807&&(Nat.ble n c&&Nat.ble (off+n*((cg cs-off) / c)) (cg cs)))
        (.sq n c (b5 (cs.map λv=>tR (mF h fu v)) off ((cg cs-off) / c))) .any
     |_=>.any
   |_=>.any
def EG:V->V
 |.int k n=>.int k n|.bool b=>.bool b|.kb b=>.bool b|.str s=>.str s|.sl n f=>.sl n f|.pd cs=>.pd cs|_=>.any
def lM (f:be):Nat->List V:=λi=>(f i).map EG
def IT (h:List Ax) (k n:Nat):V:=match gX h k with|some (.gl e _ f _)=>cond (Nat.beq e 6) (mF h 11 (.gs k n)) (.sl n (lM f))|_=>.any
def I0 (h:List Ax):V->V
 |.gs k n=>IT h k n|v=>mF h 11 v
def tN (h:List Ax):V->V
 |.gs k n=>IT h k n|.agg cs=>.agg (cs.map (I0 h))|v=>mF h 12 v
def Jt (h:List Ax) (k n:Nat):List (Nat×Nat):=match gX h k with|some (.gl _ n' _ _)=>[(n,n')]|_=>[]
def abS (h:List Ax):V->List (Nat×Nat)
 |.gs k n=>Jt h k n|_=>[]
def Gz (h:List Ax):List V->List (Nat×Nat)
 |[]=>[]|v::vs=>yY (abS h v) (Gz h vs)
def ad9 (h:List Ax):V->List (Nat×Nat)
 |.gs k n=>Jt h k n|.agg cs=>Gz h cs|_=>[]
def rR (h:List Ax):List V->List (Nat×Nat)
 |[]=>[]|v::vs=>yY (ad9 h v) (rR h vs)
def Iw:List (Nat×Nat)->Bh α->Bh α
 |[],x=>x|p::l,x=>.ob (Nat.ble p.1 p.2) (Iw l x)
end
end Go.Dx
namespace Go.Sx
inductive Bf where|v (a:ak)|ag (ds:List Bf)|sl (esz:Nat) (els:List (List Bf))|pt (ds:List Bf)|fn (f:FuncId) (xs ys:List Bf)
def bK:ak->Bool
 |.int ..|.bool ..|.str ..=>true|_=>false
def Bf.isC:Bf->Bool
 |.v _|.sl ..|.pt _=>true|_=>false
def IF (lh:List ar):Option jh->Prop
 |some (.l k _)=>isCells lh[k]? = true|_=>True
section
variable (w0:World) (lh:List ar)
mutual
def rd:Bf->ak->Prop
 |.v b,a=>bK b=true/\a=b|.ag ds,a=>∃cs,a=.agg cs/\Lk ds cs|.sl esz els,a=>∃p c,a=.slice p els.length c/\els.length<=9223372036854775807/\IF lh p/\Ll els esz p 0|.pt ds,a=>∃p cs,a=.ptr (some p)/\lds w0 lh p ds.length=some cs/\Lk ds cs|.fn f xs ys,a=>∃us vs,a=.fn (.func f) us vs/\PM xs us/\PM ys vs
def PM:List Bf->List ak->Prop
 |[],cs=>cs=[]|d::ds,cs=>∃x xs,cs=x::xs/\rd d x/\PM ds xs
def Lk:List Bf->List ak->Prop
 |[],cs=>cs=[]|d::ds,cs=>∃x xs,cs=x::xs/\d.isC=true/\rd d x/\Lk ds xs
def Ll:List (List Bf)->Nat->Option jh->Nat->Prop
 |[],_,_,_=>True|e::es,esz,p,i=>(∃Pw cs,p=some Pw/\lds w0 lh (Pw.add (i*esz)) esz=some cs/\Lk e cs)/\Ll es esz p (i+1)
end
end
def plain:ak->Bool
 |.agg cs=>cs.all bK
 |.tup cs=>cs.all λ|.agg ds=>ds.all bK|a=>bK a
 |a=>bK a
theorem rC {m m':aN} {a:ak} {v:Value} (hs:bK a=true) (h:C5 m a v):C5 m' a v:=by cases a<;>simp[bK]at hs<;>first|(simp[C5]at h ⊢;exact h)|cases hs
theorem kj {m m':aN}:∀ {az:List ak} {vs:List Value},az.all bK=true->aC m az vs->aC m' az vs
 |[],_,_,h=>by simp[aC]at h ⊢;exact h
 |a::az,_,hs,h=>by simp only[EJ,D2]at hs;simp only[aC]at h ⊢;obtain⟨u,us,rfl,M,N⟩:=h;exact⟨u,us,rfl,rC hs.1 M,kj hs.2 N⟩
theorem hn' {m m':aN} {a:ak} {v:Value} (hs:(match a with|.agg ds=>ds.all bK|a=>bK a)=true) (h:C5 m a v):C5 m' a v:=by
 cases a with
 |agg cs=>simp[C5]at h ⊢;obtain⟨vs,rfl,h⟩:=h;exact⟨vs,rfl,kj hs h⟩|_=>exact rC hs h
theorem hji {m m':aN}:∀ {az:List ak} {vs:List Value},(az.all λ|.agg ds=>ds.all bK|a=>bK a)=true->aC m az vs->aC m' az vs
 |[],_,_,h=>by simp[aC]at h ⊢;exact h
 |a::az,_,hs,h=>by simp only[EJ,D2]at hs;simp only[aC]at h ⊢;obtain⟨u,us,rfl,M,N⟩:=h;exact⟨u,us,rfl,hn' hs.1 M,hji hs.2 N⟩
theorem hp2 {m m':aN} {a:ak} {v:Value} (hs:plain a=true) (h:C5 m a v):C5 m' a v:=by
 cases a with
 |agg cs=>simp[C5]at h ⊢;obtain⟨vs,rfl,h⟩:=h;exact⟨vs,rfl,kj hs h⟩|tup cs=>simp[C5]at h ⊢;obtain⟨vs,rfl,h⟩:=h;exact⟨vs,rfl,hji hs h⟩|_=>exact rC hs h
theorem uN {p:Nat->Prop} {a:ak} (hs:bK a=true):l9 p a:=by cases a<;>first|(simp only[l9];done)|(simp only[bK]at hs;cases hs)
theorem ry {p:Nat->Prop}:∀ {az:List ak},az.all bK=true->kq p az
 |[],_=>by simp[kq]
 |a::az,hs=>by simp only[EJ,D2]at hs;simp only[kq];exact⟨uN hs.1,ry hs.2⟩
theorem Ae {p:Nat->Prop}:∀ {az:List ak},(az.all λ|.agg ds=>ds.all bK|a=>bK a)=true->kq p az
 |[],_=>by simp[kq]
 |a::az,hs=>by
   simp only[EJ,D2]at hs;simp only[kq];refine⟨?_,Ae hs.2⟩;cases a with
   |agg cs=>simp[l9];exact ry hs.1|_=>exact uN hs.1
theorem hza {p:Nat->Prop} {a:ak} (hs:plain a=true):l9 p a:=by
 cases a with
 |agg cs=>simp[l9];exact ry hs|tup cs=>simp[l9];exact Ae hs|_=>exact uN hs
section
variable {B:dP} {m:aN} {lh:List ar} {w:World}
theorem kZ {w:World} {a:Addr}:∀ (vs:List Value) (i:Nat),(∀ j v,vs[j]? = some v->w.cell? (a.add (i+j))=some v)->gP w a i vs.length=some (vs.map bU)
 |[],i,_=>rfl
 |v::vs,i,h=>by have h0:=h 0 v rfl;simp[GE]at h0;have ih:=kZ vs (i+1) (λj u hu=>by have:=h (j+1) u (by simpa using hu);rw[← this];congr 2;omega);simp[EO,gP,h0,ih,E8]
theorem zj (h:bh B m lh w) {p:jh} {Pw:Option Addr} (hq:eg m (some p) Pw) {n:Nat} {xs:List ak} (hx:lds B.w0 lh p n=some xs) :
 ∃a us,Pw=some a/\lds w [] (.g a) n=some (us.map bU)/\aC m xs us:=by
 cases p with
 |l k off=>
   simp[lds]at hx;split at hx
   ·rename_i cs ty hk
    split at hx
    ·rename_i R8
     cases hx;obtain⟨b,hb,rfl⟩:=hq
     let ⟨b',vs,Qx,R3,hh,_⟩:=h.loc k cs ty hk
     rw[hb]at Qx;cases Qx;have hl:=c7 R3;have hr:=fK n (gz off R3);have hn:((vs.toList.drop off).take n).length=n:=by simp at hl ⊢;omega
     refine⟨_,(vs.toList.drop off).take n,rfl,?_,hr⟩;have:=kZ (w:=w) (a:=⟨b,off,none⟩) ((vs.toList.drop off).take n) 0 (λj v hv=>by
      rw[nC];rw[En]at hv;split at hv
      ·rw[Fz]at hv;simp[World.cell?,hh];simpa using hv
      ·cases hv)
     rw[hn]at this;exact this
    ·cases hx
   ·cases hx
 |g a=>simp[eg]at hq;subst hq;obtain⟨vs,rfl,N,h3⟩:=e7 n 0 xs hx;refine⟨a,vs,rfl,?_,cv m vs⟩;have:=kZ (w:=w) (a:=a) vs 0 (λj v hv=>h.cell_g (h3 j v hv));rw[N]at this;exact this
theorem bh.back (h:bh B m lh w) {m1:aN} {lh1:List ar} {w':World} (h':bh ⟨w,w,λ_=>False,[]⟩ m1 lh1 w'):bh B m lh w':=by
 have hold:∀b,b<w.heap.size->w'.heap[b]? = w.heap[b]? := λb hb=>h'.old b hb;have RI:w.heap.size<=w'.heap.size:=h'.size;refine⟨h'.os.trans h.os,h'.tape.trans h.tape,h'.output.trans h.output,Eg h.size RI,λb hb=>?_,Eg h.fsize RI,λb hb ho=>?_,λk cs ty hk=>?_,h.inj,h.dom,h.dead,λk b hb=>Fj (h.rng k b hb) RI⟩
 ·rw[hold b (Fj hb h.size)];exact h.old b hb
 ·rw[hold b (Fj hb h.fsize)];exact h.kept b hb ho
 ·let ⟨b,vs,M,N,h3,h4⟩:=h.loc k cs ty hk
  exact⟨b,vs,M,N,by rw[hold b (h.rng k b M)];exact h3,h4⟩
end
end Go.Sx
namespace Go.Dx
open Go.Sx
structure Nu where
 m:Nat->Option (Option (Nat×Nat×Nat))
 z:List ar
instance:CoeFun Nu λ_=>Nat->Option (Option (Nat×Nat×Nat)):=⟨Nu.m⟩
def wY (a b:List ar):Prop:=∀(k:Nat) (az:List ak) (ty:TypeId),a[k]? = some (ar.cells az ty)->b[k]? = some (ar.cells az ty)
theorem nh (a:List ar):wY a a:=λ_ _ _ h=>h
theorem awT (a:List ar):wY [] a:=λ_ _ _ h=>by simp at h
theorem qt {a b c:List ar} (h:wY a b) (k:wY b c):wY a c:=λi az ty hx=>k i az ty (h i az ty hx)
def Nu.nil:Nu:=⟨λ_=>none,[]⟩
def Nu.sub (ν ν':Nu):Prop:=(∀k x,ν k=some x->ν' k=some x)/\wY ν.z ν'.z
theorem Nu.nil_sub (ν:Nu):Nu.nil.sub ν:=⟨λ_ _ h=>by(cases h),awT _⟩
theorem Nu.sub_refl (ν:Nu):ν.sub ν:=⟨λ_ _ h=>h,nh _⟩
theorem Nu.sub_trans {a b c:Nu} (h:a.sub b) (k:b.sub c):a.sub c:=⟨λi x hx=>k.1 i x (h.1 i x hx),qt h.2 k.2⟩
def Lc (lh:List ar):Option jh->Prop
 |some (.l k off)=>∃cs ty,lh[k]? = some (ar.cells cs ty)/\off<=cs.length|_=>True
mutual
def vr (w0:World) (lh:List ar) (ν:Nu):V->ak->Prop
 |.int k n,a=>a=.int k n|.bool b,a=>a=.bool b|.kb b,a=>a=.bool b|.str s,a=>a=.str s|.agg cs,a=>∃az,a=.agg az/\bI w0 lh ν cs az|.tup cs,a=>∃az,a=.tup az/\bI w0 lh ν cs az|.fn f xs ys,a=>∃us vs,a=.fn (.func f) us vs/\bI w0 lh ν xs us/\bI w0 lh ν ys vs|.sl n f,a=>∃p c esz,a=.slice p n c/\n<=c/\n<=9223372036854775807/\Lc lh p/\∀i,i<n->∃Pw az,p=some Pw/\lds w0 lh (Pw.add (i*esz)) esz=some az/\bI w0 lh Nu.nil (f i) az/\(f i).all V.fc=true|.sq n m f,a=>∃p c esz,a=.slice p n c/\(n<=c/\n<=m)/\n<=9223372036854775807/\Lc lh p/\∀i,i<n->∃Pw az,p=some Pw/\lds w0 lh (Pw.add (i*esz)) esz=some az/\bI w0 lh Nu.nil (f i) az/\(f i).all V.fc=true|.pd cs,a=>∃p az,a=.ptr (some p)/\IF lh (some p)/\lds w0 lh p cs.length=some az/\bI w0 lh Nu.nil cs az/\cs.all V.fc=true|.pl k off,a=>∃b c e,ν k=some (some (b,c,e))/\a=.ptr (some (.l b off))|.pe k i j,a=>∃b c e,ν k=some (some (b,c,e))/\a=.ptr (some (.l b (i*e+j)))|.ss k off n c,a=>∃b c' e,ν k=some (some (b,c',e))/\a=.slice (some (.l b off)) n c|.gs k n,a=>(ν k=some none/\n=0/\a=.slice none 0 0)∨∃b c e,ν k=some (some (b,c,e))/\a=.slice (some (.l b 0)) n c/\n<=c|.ns,a=>a=.slice none 0 0|.np,a=>a=.ptr none|.any,_=>True|.gd b v,a=>(b=true->vr w0 lh ν v a)/\(b=false->∃l,a=.tup l)|.yl l,a=>a=ks l|.go k off n,a=>(ν k=some none/\n=0/\off=0/\a=.slice none 0 0)∨∃b c e o,ν k=some (some (b,c,e))/\a=.slice (some (.l b o)) n (c-off)/\(off+n<=c/\o<=c*e)/\(0<n->o=off*e)
def bI (w0:World) (lh:List ar) (ν:Nu):List V->List ak->Prop
 |[],az=>az=[]|v::vs,az=>∃x xs,az=x::xs/\vr w0 lh ν v x/\bI w0 lh ν vs xs
end
section lists
variable {α β:Type}
theorem DG:∀ (l:List α) (i:Nat),gX l i=l[i]?
 |[],_=>by simp[gX]
 |_::_,0=>by simp[gX]
 |_::l,i+1=>by simp[gX,DG l i]
theorem iX:∀ (l:List α) (i:Nat) (b:α),A6 l i b=l.set i b
 |[],_,_=>rfl|_::_,0,_=>rfl|_::l,i+1,b=>by simp[A6,iX l i b]
theorem yX:∀ (l:List α) (b:α),H2 l b=l++[b]
 |[],_=>rfl|_::l,b=>by simp[H2,yX l b]
theorem mJ:∀ (l b:List α),yY l b=l++b
 |[],_=>rfl|_::l,b=>by simp[yY,mJ l b]
theorem b6:∀ (l:List α),cg l=l.length
 |[]=>rfl|_::l=>by simp[cg,b6 l]
theorem xp:∀ {n:Nat} {l r:List α},tE n l=some r->n<=l.length/\r=l.drop n
 |0,l,r,h=>by simp[tE]at h;simp[h]
 |n+1,[],r,h=>by simp[tE]at h
 |n+1,_::l,r,h=>by
   simp[tE]at h
   let ⟨M,N⟩:=xp h
   exact⟨by simp;exact M,by simpa using N⟩
theorem yS:∀ {n:Nat} {l r:List α},yL n l=some r->n<=l.length/\r=l.take n
 |0,l,r,h=>by simp[yL]at h;simp[h]
 |n+1,[],r,h=>by simp[yL]at h
 |n+1,a::l,r,h=>by
   simp[yL]at h;split at h
   ·rename_i r' hr
    cases h
    let ⟨M,N⟩:=yS hr
    exact⟨by simp;exact M,by simp[N]⟩
   ·cases h
theorem tW {l r:List α} {off n:Nat} (h:Gx l off n=some r):off+n<=l.length/\r=(l.drop off).take n:=by
 unfold Gx at h;split at h
 ·rename_i r' hr;obtain⟨M,rfl⟩:=xp hr;obtain⟨h3,rfl⟩:=yS h;simp at h3;exact⟨K,rfl⟩
 ·cases h
end lists
section
variable {w0:World} {lh:List ar} {ν ν':Nu}
mutual
theorem p7 (hn:∀ k x,ν k=some x->ν' k=some x):∀ (v:V) (a:ak),vr w0 lh ν v a->vr w0 lh ν' v a
 |.int ..,a,h=>by simp[vr]at h ⊢;exact h
 |.bool ..,a,h=>by simp[vr]at h ⊢;exact h
 |.kb ..,a,h=>by simp[vr]at h ⊢;exact h
 |.str ..,a,h=>by simp[vr]at h ⊢;exact h
 |.agg cs,a,h=>by simp[vr]at h ⊢;let ⟨az,M,N⟩:=h;exact⟨az,M,iH hn cs az N⟩
 |.tup cs,a,h=>by simp[vr]at h ⊢;let ⟨az,M,N⟩:=h;exact⟨az,M,iH hn cs az N⟩
 |.fn f xs ys,a,h=>by simp[vr]at h ⊢;let ⟨us,vs,M,N,h3⟩:=h;exact⟨us,vs,M,iH hn xs us N,iH hn ys vs h3⟩
 |.sl n f,a,h=>by
   simp[vr]at h ⊢
   let ⟨p,c,esz,M,N,h3,h4,h5⟩:=h
   exact⟨p,c,esz,M,N,h3,h4,λi hi=>let ⟨Pw,az,g1,g2,g3⟩:=h5 i hi;⟨Pw,az,g1,g2,g3⟩⟩
 |.sq n m f,a,h=>by
   simp[vr]at h ⊢
   let ⟨p,c,esz,M,N,h3,h4,h5⟩:=h
   exact⟨p,c,esz,M,N,h3,h4,λi hi=>let ⟨Pw,az,g1,g2,g3⟩:=h5 i hi;⟨Pw,az,g1,g2,g3⟩⟩
 |.pd cs,a,h=>by simp[vr]at h ⊢;let ⟨p,az,M,N,h3,h4⟩:=h;exact⟨p,az,M,N,h3,h4⟩
 |.pl k off,a,h=>by simp only[vr]at h ⊢;let ⟨b,c,e,M,N⟩:=h;exact⟨b,c,e,hn _ _ M,N⟩
 |.pe k i j,a,h=>by simp[vr]at h ⊢;let ⟨b,c,e,M,N⟩:=h;exact⟨b,c,e,hn _ _ M,N⟩
 |.ss k off n c,a,h=>by simp only[vr]at h ⊢;let ⟨b,c',e,M,N⟩:=h;exact⟨b,c',e,hn _ _ M,N⟩
 |.gs k n,a,h=>by
   simp only[vr]at h ⊢;rcases h with ⟨M,N⟩|⟨b,c,e,M,N⟩
   ·exact .inl ⟨hn _ _ M,N⟩
   ·exact .inr ⟨b,c,e,hn _ _ M,N⟩
 |.ns,a,h=>by simp[vr]at h ⊢;exact h
 |.np,a,h=>by simp[vr]at h ⊢;exact h
 |.any,a,h=>by simp[vr]
 |.gd b v,a,h=>by simp[vr]at h ⊢;exact⟨λe=>p7 hn v a (h.1 e),h.2⟩
 |.yl l,a,h=>by simp[vr]at h ⊢;exact h
 |.go k off n,a,h=>by
   simp only[vr]at h ⊢;rcases h with ⟨M,N⟩|⟨b,c,e,o,M,N⟩
   ·exact .inl ⟨hn _ _ M,N⟩
   ·exact .inr ⟨b,c,e,o,hn _ _ M,N⟩
theorem iH (hn:∀ k x,ν k=some x->ν' k=some x):∀ (vs:List V) (az:List ak),bI w0 lh ν vs az->bI w0 lh ν' vs az
 |[],az,h=>by simp[bI]at h ⊢;exact h
 |v::vs,az,h=>by simp[bI]at h ⊢;let ⟨x,xs,M,N,h3⟩:=h;exact⟨x,xs,M,p7 hn v x N,iH hn vs xs h3⟩
end
theorem amW (hn:ν.sub ν') (v:V) (a:ak) (h:vr w0 lh ν v a):vr w0 lh ν' v a:=p7 hn.1 v a h
theorem lF (hn:ν.sub ν') (v:List V) (a:List ak) (h:bI w0 lh ν v a):bI w0 lh ν' v a:=iH hn.1 v a h
theorem yy {lh lh':List ar} (hz:wY lh lh') {p:jh} {n:Nat} {az:List ak} (h:lds w0 lh p n=some az):lds w0 lh' p n=some az:=by
 cases p with
 |g a=>exact h
 |l k off=>
   simp[lds]at h ⊢;cases hk:lh[k]? with
   |none=>rw[hk]at h;cases h
   |some o=>
     cases o with
     |dead=>rw[hk]at h;cases h|hid=>rw[hk]at h;cases h|cells cs ty=>rw[hz k cs ty hk];rw[hk]at h;exact h
theorem alN {lh lh':List ar} (hz:wY lh lh') {p:Option jh} (h:IF lh p):IF lh' p:=by
 cases p with
 |none=>trivial
 |some p=>
   cases p with
   |g a=>trivial
   |l k off=>
     simp[IF]at h ⊢;cases hk:lh[k]? with
     |none=>rw[hk]at h;cases h
     |some o=>
       cases o with
       |dead=>rw[hk]at h;cases h|hid=>rw[hk]at h;cases h|cells cs ty=>rw[hz k cs ty hk];rfl
theorem yaN {lh lh':List ar} (hz:wY lh lh') {p:Option jh} (h:Lc lh p):Lc lh' p:=by
 cases p with
 |none=>trivial
 |some p=>
   cases p with
   |g a=>trivial|l k off=>let ⟨cs,ty,M,N⟩:=h;exact⟨cs,ty,hz k cs ty M,N⟩
theorem is0 {lh:List ar} {p:jh} {n:Nat} {az:List ak} (h:lds w0 lh p n=some az):IF lh (some p):=by
 cases p with
 |g a=>trivial
 |l k off=>
   simp[lds]at h;simp[IF];cases hk:lh[k]? with
   |none=>rw[hk]at h;cases h
   |some o=>
     cases o with
     |dead=>rw[hk]at h;cases h|hid=>rw[hk]at h;cases h|cells cs ty=>rfl
mutual
theorem nI {lh lh':List ar} (hz:wY lh lh'):∀ {ν:Nu} (v:V) (a:ak),vr w0 lh ν v a->vr w0 lh' ν v a
 |_,.int ..,a,h=>by simp[vr]at h ⊢;exact h
 |_,.bool ..,a,h=>by simp[vr]at h ⊢;exact h
 |_,.kb ..,a,h=>by simp[vr]at h ⊢;exact h
 |_,.str ..,a,h=>by simp[vr]at h ⊢;exact h
 |_,.agg cs,a,h=>by simp[vr]at h ⊢;let ⟨az,M,N⟩:=h;exact⟨az,M,lL hz cs az N⟩
 |_,.tup cs,a,h=>by simp[vr]at h ⊢;let ⟨az,M,N⟩:=h;exact⟨az,M,lL hz cs az N⟩
 |_,.fn f xs ys,a,h=>by simp[vr]at h ⊢;let ⟨us,vs,M,N,h3⟩:=h;exact⟨us,vs,M,lL hz xs us N,lL hz ys vs h3⟩
 |_,.sl n f,a,h=>by
   simp only[vr]at h ⊢
   let ⟨p,c,esz,M,N,h3,h4,h5⟩:=h
   exact⟨p,c,esz,M,N,h3,yaN hz h4,λi hi=>let ⟨Pw,az,g1,g2,g3,g4⟩:=h5 i hi;⟨Pw,az,g1,yy hz g2,lL hz (f i) az g3,g4⟩⟩
 |_,.sq n m f,a,h=>by
   simp only[vr]at h ⊢
   let ⟨p,c,esz,M,N,h3,h4,h5⟩:=h
   exact⟨p,c,esz,M,N,h3,yaN hz h4,λi hi=>let ⟨Pw,az,g1,g2,g3,g4⟩:=h5 i hi;⟨Pw,az,g1,yy hz g2,lL hz (f i) az g3,g4⟩⟩
 |_,.pd cs,a,h=>by simp only[vr]at h ⊢;let ⟨p,az,M,N,h3,h4,h5⟩:=h;exact⟨p,az,M,alN hz N,yy hz h3,lL hz cs az h4,h5⟩
 |_,.pl k off,a,h=>by simp[vr]at h ⊢;exact h
 |_,.pe k i j,a,h=>by simp[vr]at h ⊢;exact h
 |_,.ss k off n c,a,h=>by simp[vr]at h ⊢;exact h
 |_,.gs k n,a,h=>by simp[vr]at h ⊢;exact h
 |_,.ns,a,h=>by simp[vr]at h ⊢;exact h
 |_,.np,a,h=>by simp[vr]at h ⊢;exact h
 |_,.any,a,h=>by simp[vr]
 |_,.gd b v,a,h=>by simp[vr]at h ⊢;exact⟨λe=>nI hz v a (h.1 e),h.2⟩
 |_,.yl l,a,h=>by simp[vr]at h ⊢;exact h
 |_,.go k off n,a,h=>by simp[vr]at h ⊢;exact h
theorem lL {lh lh':List ar} (hz:wY lh lh'):∀ {ν:Nu} (vs:List V) (az:List ak),bI w0 lh ν vs az->bI w0 lh' ν vs az
 |_,[],az,h=>by simp[bI]at h ⊢;exact h
 |_,v::vs,az,h=>by simp[bI]at h ⊢;let ⟨x,xs,M,N,h3⟩:=h;exact⟨x,xs,M,nI hz v x N,lL hz vs xs h3⟩
end
theorem acP (hn:ν.sub ν') (v:V) (a:ak) (h:vr w0 ν.z ν v a):vr w0 ν'.z ν' v a:=amW hn v a (nI hn.2 v a h)
theorem FA (hn:ν.sub ν') (v:List V) (a:List ak) (h:bI w0 ν.z ν v a):bI w0 ν'.z ν' v a:=lF hn v a (lL hn.2 v a h)
theorem bY:∀ {vs:List V} {az:List ak},bI w0 lh ν vs az->az.length=vs.length
 |[],_,h=>by simp[bI]at h;subst h;rfl
 |_::_,_,h=>by simp[bI]at h;obtain⟨x,xs,rfl,_,h3⟩:=h;simp[bY h3]
theorem oO:∀ {vs:List V} {az:List ak} {i:Nat} {v:V},bI w0 lh ν vs az->vs[i]? = some v->∃ a,az[i]? = some a/\vr w0 lh ν v a
 |[],_,_,_,_,h=>by simp at h
 |_::_,_,0,_,hr,h=>by simp[bI]at hr;obtain⟨x,xs,rfl,N,_⟩:=hr;simp at h;subst h;exact⟨x,rfl,N⟩
 |_::_,_,i+1,_,hr,h=>by
   simp[bI]at hr;obtain⟨x,xs,rfl,_,h3⟩:=hr;simp at h
   let ⟨a,h4,h5⟩:=oO h3 h
   exact⟨a,by simpa using h4,h5⟩
theorem gY:∀ {vs:List V} {az:List ak} (n:Nat),bI w0 lh ν vs az->bI w0 lh ν (vs.drop n) (az.drop n)
 |vs,az,0,h=>by simpa using h
 |[],az,n+1,h=>by simp[bI]at h;subst h;simp[bI]
 |_::_,az,n+1,h=>by simp[bI]at h;obtain⟨x,xs,rfl,_,h3⟩:=h;simpa using gY n h3
theorem ja:∀ {vs:List V} {az:List ak} (n:Nat),bI w0 lh ν vs az->bI w0 lh ν (vs.take n) (az.take n)
 |vs,az,0,h=>by simp[bI]
 |[],az,n+1,h=>by simp[bI]at h;subst h;simp[bI]
 |_::_,az,n+1,h=>by simp[bI]at h;obtain⟨x,xs,rfl,N,h3⟩:=h;simp only[List.take_succ_cons,bI];exact⟨_,_,rfl,N,ja n h3⟩
theorem lZ:∀ {vs vs':List V} {az as':List ak},bI w0 lh ν vs az->bI w0 lh ν vs' as'->bI w0 lh ν (vs++vs') (az++as')
 |[],_,_,_,h,h'=>by simp[bI]at h;subst h;simpa using h'
 |_::_,_,_,_,h,h'=>by simp[bI]at h;obtain⟨x,xs,rfl,N,h3⟩:=h;simp only[JM,bI];exact⟨_,_,rfl,N,lZ h3 h'⟩
theorem qI {α:Type}:∀ {cs:List α} {off:Nat} {xs r:List α},sh cs off xs=some r->off+xs.length<=cs.length/\r.length=cs.length
 |cs,0,[],r,h=>by simp[sh]at h;simp[h]
 |[],0,x::xs,r,h=>by simp[sh]at h
 |c::cs,0,x::xs,r,h=>by
   simp[sh]at h;split at h
   ·rename_i r' hr;cases h;have:=qI hr;simp at this ⊢;omega
   ·cases h
 |[],off+1,xs,r,h=>by simp[sh]at h
 |c::cs,off+1,xs,r,h=>by
   simp[sh]at h;split at h
   ·rename_i r' hr;cases h;have:=qI hr;simp at this ⊢;omega
   ·cases h
theorem A4 (c:ak):∀ (xs cs:List ak) (off:Nat),wr (c::cs) (off+1) xs=c::wr cs off xs
 |[],_,_=>rfl|x::xs,cs,off=>by simp[wr,List.set_cons_succ];exact A4 c xs _ _
theorem yO:∀ {cs:List V} {off:Nat} {xs:List V} {us:List ak} {az:List ak} {r:List V},bI w0 lh ν cs az->bI w0 lh ν xs us->sh cs off xs=some r->bI w0 lh ν r (wr az off us)
 |cs,0,[],us,az,r,h,hx,hw=>by simp[bI]at hx;subst hx;simp[sh]at hw;subst hw;exact h
 |[],0,x::xs,us,az,r,h,hx,hw=>by simp[sh]at hw
 |c::cs,0,x::xs,us,az,r,h,hx,hw=>by
   simp[bI]at hx h;obtain⟨u,us,rfl,M,N⟩:=hx;obtain⟨a,az,rfl,h3,h4⟩:=h;simp[sh]at hw;split at hw
   ·rename_i r' hr;cases hw;simp[wr,List.set_cons_zero];rw[A4];simp only[bI];exact⟨_,_,rfl,M,yO h4 N hr⟩
   ·cases hw
 |[],off+1,xs,us,az,r,h,hx,hw=>by simp[sh]at hw
 |c::cs,off+1,xs,us,az,r,h,hx,hw=>by
   simp[bI]at h;obtain⟨a,az,rfl,h3,h4⟩:=h;simp[sh]at hw;split at hw
   ·rename_i r' hr;cases hw;rw[A4];simp only[bI];exact⟨_,_,rfl,h3,yO h4 hx hr⟩
   ·cases hw
theorem evM (a:ak):vr w0 lh ν (IG a) a:=by unfold IG;split<;>simp only[vr,bI];exact⟨_,_,rfl,rfl,rfl⟩
theorem qF:∀ l:List ak,bI w0 lh ν (l.map IG) l
 |[]=>by simp[bI]
 |a::l=>by simp only[E8,bI];exact⟨_,_,rfl,evM a,qF l⟩
theorem amU {v:V} {a:ak} (h:vr w0 lh ν v a) (M:v.one=true):a.one=true:=by
 cases v<;>simp only[vr]at h
 case gs=>rcases h with ⟨_,_,h⟩|⟨_,_,_,_,h,_⟩<;>(subst h;rfl)
 case go=>rcases h with ⟨_,_,_,h⟩|⟨_,_,_,_,_,h,_⟩<;>(subst h;rfl)
 all_goals first
  |(simp[V.one]at M;done)|(subst h;rfl)|(obtain⟨_,_,rfl,_⟩:=h;rfl)|(obtain⟨_,_,_,rfl,_⟩:=h;rfl)|(obtain⟨_,_,_,_,rfl⟩:=h;rfl)
theorem lw:∀ {vs:List V} {az:List ak},bI w0 lh ν vs az->vs.all V.one=true->az.all ak.one=true
 |[],_,h,_=>by simp[bI]at h;subst h;rfl
 |_::_,_,h,M=>by simp[bI]at h;obtain⟨x,xs,rfl,N,h3⟩:=h;simp only[EJ,D2]at M ⊢;exact⟨amU N M.1,lw h3 M.2⟩
theorem xU {v:V} {a:ak} (h:vr w0 lh ν v a) (M:v.flat=true):a.flat=true/\bI w0 lh ν v.cells a.cells:=by
 by_cases hv:∃cs,v=.agg cs
 ·obtain⟨cs,rfl⟩:=hv;simp[vr]at h;obtain⟨az,rfl,N⟩:=h;exact⟨lw N M,N⟩
 ·have N:v.one=true:=by
   cases v<;>first|exact M|exact(hv ⟨_,rfl⟩).elim
  have h3:=amU h N;have h4:v.cells=[v]:=by cases v<;>first|rfl|exact(hv ⟨_,rfl⟩).elim
  have h5:a.cells=[a]/\a.flat=true:=by cases a<;>first|exact⟨rfl,h3⟩|(simp[ak.one]at h3)
  refine⟨h5.2,?_⟩;rw[h4,h5.1];simp only[bI];exact⟨_,_,rfl,h,rfl⟩
structure gU (w0:World) (ν:Nu) (QG:Nat) (e:bS) (sl:List ak):Prop where
 len:sl.length=QG
 at':∀i,vr w0 ν.z ν (kp e i) (sl.getD i .any)
theorem gU.mono {QG:Nat} {e:bS} {sl:List ak} (h:gU w0 ν QG e sl) (hn:ν.sub ν'):gU w0 ν' QG e sl:=⟨h.len,λi=>acP hn _ _ (h.at' i)⟩
theorem gU.arg {QG:Nat} {e:bS} {sl:List ak} (h:gU w0 ν QG e sl) (x:gk):vr w0 ν.z ν (dT e x) (arg sl x):=by
 cases x with
 |t i=>exact h.at' i|k a=>exact evM a
theorem nj (d:Nat) (v:V) (e:bS) (i:Nat):kp ((d,v)::e) i=if i=d then v else kp e i:=by
 simp only[kp];by_cases h:i=d
 ·subst h;simp
 ·rw [C4 h]
  have:Nat.beq i d=false:=by
   cases hb:Nat.beq i d with
   |false=>rfl|true=>exact(h (DT hb)).elim
  rw[this];rfl
theorem gU.set {QG:Nat} {e:bS} {sl:List ak} (h:gU w0 ν QG e sl) {d:Nat} (hd:d<QG) {v:V} {a:ak} (hv:vr w0 ν.z ν v a):gU w0 ν QG ((d,v)::e) (sl.set d a):=by
 refine⟨by simpa using h.len,λi=>?_⟩;rw[nj];by_cases hi:i=d
 ·subst hi;have:=h.len;rw[CV rfl];simp[List.getD,show i<sl.length by omega];exact hv
 ·rw[C4 hi];simp[List.getD,Db];rw[C4 (λe=>hi e.symm)];exact h.at' i
theorem gU.put {QG:Nat} {e:bS} {sl:List ak} (h:gU w0 ν QG e sl) (d:Option Nat) (hd:∀ i,d=some i->i<QG) {v:V} {a:ak} (hv:vr w0 ν.z ν v a):gU w0 ν QG (eM e d v) (fk sl d a):=by
 cases d with
 |none=>exact h|some d=>exact h.set (hd d rfl) hv
theorem gU.know {QG:Nat} {e:bS} {sl:List ak} (h:gU w0 ν QG e sl) {d:Nat} {v:V} (hv:vr w0 ν.z ν v (sl.getD d .any)):gU w0 ν QG ((d,v)::e) sl:=by
 refine⟨h.len,λi=>?_⟩;rw[nj];split
 ·rename_i hi;subst hi;exact hv
 ·exact h.at' i
theorem gU.args {QG:Nat} {e:bS} {sl:List ak} (h:gU w0 ν QG e sl):∀ xs:List gk,bI w0 ν.z ν (xs.map (dT e)) (xs.map (Sx.arg sl))
 |[]=>by simp[bI]
 |x::xs=>by simp only[E8,bI];exact⟨_,_,rfl,h.arg x,h.args xs⟩
end
abbrev fD:=Nat×Nat->AN->bS->List Ax->Option Ex->(Ex->bS->List Ax->Option Ex->Prop)->Prop
def bT {α:Type} (LP:fD):Bh α->(α->Prop)->Prop
 |.ret a,Q2=>Q2 a|.br b x y,Q2=>(b=true->bT LP x Q2)/\(b=false->bT LP y Q2)|.ob b x,Q2=>b=true/\bT LP x Q2|.obi c d x,Q2=>(c=true->d=true)/\bT LP x Q2|.obp p x,Q2=>p/\bT LP x Q2|.obq a b x,Q2=>a=b/\bT LP x Q2|.fail _,_=>False|.loop fr body e h g k,Q2=>LP fr body e h g λex e h g=>bT LP (k ex e h g) Q2
 |.all f,Q2=>∀l,bT LP (f l) Q2|.und x y,Q2=>bT LP x Q2/\bT LP y Q2|.asm p x,Q2=>p->bT LP x Q2
def bk (h:List Ax) (k:Nat):Prop:=fj h k=true
def Fx (w0:World) (ν:Nu) (nV nS:Nat) (lh:List ar) (k:Nat):Ax->Prop
 |.cells cs ty=>∃b c e az,ν k=some (some (b,c,e))/\lh[b]? = some (.cells az ty)/\bI w0 ν.z ν cs az|.gl esz n f ty=>(ν k=some none/\n=0)∨∃b c az,ν k=some (some (b,c,esz))/\lh[b]? = some (.cells az ty)/\az.length=c*esz/\(n<=c/\n<=9223372036854775807)/\∀i,i<n->nX esz (f i)=true/\bI w0 ν.z ν (f i) ((az.drop (i*esz)).take esz)|.dead=>ν k=none/\nV<=k/\lh[nS+(k-nV)]? = some .dead|.hid=>True
structure HR (w0:World) (ν:Nu) (nV nS:Nat) (h:List Ax) (lh:List ar):Prop where
 blk:∀k o,h[k]? = some o->Fx w0 ν nV nS lh k o
 inj:∀k k' x x',bk h k->bk h k'->ν k=some (some x)->ν k'=some (some x')->x.1=x'.1->k=k'
 dom:∀k,h.length<=k->ν k=none
 rng:∀k x,ν k=some (some x)->x.1<lh.length
 zl:wY ν.z lh
 zn:∀k x,bk h k->ν k=some (some x)->isCells ν.z[x.1]? = false
section
variable {w0:World} {ν ν':Nu} {nV nS:Nat} {h h':List Ax} {lh lh':List ar} {α:Type} {LP:fD} {Q2:α->Prop}
theorem gx {k:Nat} (hk:bk h k):(∃ cs ty,h[k]? = some (.cells cs ty))∨∃ e n f ty,h[k]? = some (.gl e n f ty):=by
 unfold bk fj at hk;rw[DG]at hk;split at hk
 ·rename_i cs ty he;exact .inl ⟨cs,ty,he⟩
 ·rename_i e n f ty he;exact .inr ⟨e,n,f,ty,he⟩
 ·cases hk
theorem eK {k:Nat} {cs:List V} {ty:TypeId} (hk:h[k]? = some (.cells cs ty)):bk h k:=by unfold bk fj;rw[DG,hk]
theorem im {k e n:Nat} {f:be} {ty:TypeId} (hk:h[k]? = some (.gl e n f ty)):bk h k:=by unfold bk fj;rw[DG,hk]
theorem d7 {k:Nat} {o:Ax} (hn:ν.sub ν') (hd:o ≠ .dead) (hl:∀ b az ty,lh[b]? = some (.cells az ty)->(∃ c e,ν k=some (some (b,c,e)))->lh'[b]? = some (.cells az ty)) (hb:Fx w0 ν nV nS lh k o):Fx w0 ν' nV nS lh' k o:=by
 cases o with
 |cells cs ty=>
   let ⟨b,c,e,az,M,N,h3⟩:=hb
   exact⟨b,c,e,az,hn.1 _ _ M,hl _ _ _ N ⟨c,e,M⟩,FA hn _ _ h3⟩
 |gl esz n f ty=>
   rcases hb with ⟨M,N⟩|⟨b,c,az,M,N,h3,h4,h5⟩
   ·exact .inl ⟨hn.1 _ _ M,N⟩
   ·exact .inr ⟨b,c,az,hn.1 _ _ M,hl _ _ _ N ⟨c,esz,M⟩,h3,h4,λi hi=>⟨(h5 i hi).1,FA hn _ _ (h5 i hi).2⟩⟩
 |dead=>exact(hd rfl).elim|hid=>trivial
def zJ (ν:Nu) (p:Nat) (x:Option (Nat×Nat×Nat)):Nu:=⟨λk=>if k=p then some x else ν k,ν.z⟩
theorem gw (ν:Nu) (p:Nat) (x:Option (Nat×Nat×Nat)) (k:Nat):zJ ν p x k=if k=p then some x else ν k:=rfl
theorem kY {p:Nat} {x:Option (Nat×Nat×Nat)} (hp:ν p=none):ν.sub (zJ ν p x):=⟨λk y hk=>by
 rw[gw];have:k≠p:=λe=>by subst e;rw[hp]at hk;cases hk
 rw[C4 this];exact hk,nh _⟩
theorem gy (ν:Nu) (p:Nat) (x:Option (Nat×Nat×Nat)):zJ ν p x p=some x:=by rw[gw,CV rfl]
theorem nl {o:Option ar} (h:isCells o=false) (az:List ak) (ty:TypeId):o≠some (.cells az ty):=λe=>by subst e;cases h
theorem hcs {z lh:List ar} (h:wY z lh) {b:Nat} (hb:isCells lh[b]? = false):isCells z[b]? = false:=by
 cases hz:z[b]? with
 |none=>rfl
 |some o=>
   cases o with
   |dead=>rfl|hid=>rfl|cells az ty=>rw[h b az ty hz]at hb;cases hb
theorem HR.put (hh:HR w0 ν nV nS h lh) {p b c e:Nat} {o:Ax} {az:List ak} {ty:TypeId} (hp:ν p=none) (Sd:p<h'.length)
 (ho:h'[p]? = some o) (hoth:∀k,k ≠ p->h'[k]? = h[k]?) (YJ:lh'[b]? = some (.cells az ty)) (Zy:∀j,j ≠ b->lh'[j]? = lh[j]?) (hfree:isCells lh[b]? = false)
 (hlen:lh.length<=lh'.length) (hdead:∀k,h[k]? = some .dead->k≠p->nS+(k-nV)≠b) (YK:o≠.dead)
 (oZ:Fx w0 (zJ ν p (some (b,c,e))) nV nS lh' p o):HR w0 (zJ ν p (some (b,c,e))) nV nS h' lh'/\ν.sub (zJ ν p (some (b,c,e))):=by
 have hs:=kY (x:=some (b,c,e)) hp;have hlive:∀k,k≠p->bk h' k->bk h k:=λk hk hl=>by unfold bk fj at *;rw[DG]at *;rw[hoth k hk]at hl;exact hl
 have hcell:∀ k x,bk h k->ν k=some (some x)->x.1≠b:=λk x hl hx e=>by
  subst e;rcases gx hl with ⟨cs,t,hk⟩|⟨_,_,_,_,hk⟩
  ·let ⟨b',c',e',as',M,N,_⟩:=hh.blk k _ hk
   rw[hx]at M;cases M;rw[N]at hfree;cases hfree
  ·rcases hh.blk k _ hk with ⟨M,_⟩|⟨b',c',as',M,N,_⟩
   ·rw[hx]at M;cases M
   ·rw[hx]at M;cases M;rw[N]at hfree;cases hfree
 have ab:=hcs hh.zl hfree;refine⟨⟨λk o' hk=>?_,λk k' x x' M N h3 h4 h5=>?_,λk hk=>?_,λk x hk=>?_,λj as' ty' hj=>?_,λk x hk hx=>?_⟩,hs⟩
 ·by_cases e1:k=p
  ·subst e1;rw[ho]at hk;cases hk;exact oZ
  ·rw [hoth k e1]at hk
   by_cases hd:o'=.dead
   ·subst hd
    let ⟨g1,g2,g3⟩:=hh.blk k _ hk
    exact⟨by rw[gw,C4 e1];exact g1,g2,by rw[Zy _ (hdead k hk e1)];exact g3⟩
   ·refine d7 hs hd (λb' as' ty' g1 _=>?_) (hh.blk k _ hk);rw[Zy b' (λe2=>by subst e2;rw[g1]at hfree;cases hfree)];exact g1
 ·rw [gw]at h3 h4
  by_cases e1:k=p<;>by_cases e2:k'=p
  ·rw[e1,e2]
  ·rw[CV e1]at h3;rw[C4 e2]at h4;cases h3;exact absurd h5.symm (hcell k' x' (hlive k' e2 N) h4)
  ·rw[C4 e1]at h3;rw[CV e2]at h4;cases h4;exact absurd h5 (hcell k x (hlive k e1 M) h3)
  ·rw[C4 e1]at h3;rw[C4 e2]at h4;exact hh.inj k k' x x' (hlive k e1 M) (hlive k' e2 N) h3 h4 h5
 ·have e1:k≠p:=λe1=>by subst e1;omega
  rw[gw,C4 e1];apply hh.dom;have:=hoth k e1;rw[Do hk]at this;exact List.getElem?_eq_none_iff.1 this.symm
 ·rw[gw]at hk
  split at hk
  ·cases hk;exact(List.getElem?_eq_some_iff.1 YJ).1
  ·exact Fj (hh.rng k x hk) hlen
 ·have Sm:ν.z[j]? = some (.cells as' ty'):=hj;rw[Zy j λe=>by rw[e]at Sm;exact nl ab _ _ Sm];exact hh.zl j as' ty' Sm
 ·rw[gw]at hx
  by_cases e1:k=p
  ·rw[CV e1]at hx;cases hx;exact ab
  ·rw[C4 e1]at hx;exact hh.zn k x (hlive k e1 hk) hx
def KM (nV nS:Nat) (pl plA:Option Nat):Prop:=(pl=none/\plA=none)∨∃p,pl=some p/\plA=some (nS+(p-nV))
theorem aAw (hh:HR w0 ν nV nS h lh) {pl plA:Option Nat} (hp:KM nV nS pl plA) {o:Ax} {az:List ak} {ty:TypeId} {c e:Nat} {At:Nat->List Ax->Bh α} {KA:Nat->List ar->Prop} (YK:o≠.dead)
 (hb:∀p b lh',lh'[b]? = some (.cells az ty)->ν p=none->Fx w0 (zJ ν p (some (b,c,e))) nV nS lh' p o)
 (hs:bT LP (gr pl h o At) Q2) (hK:∀p b h' lh',((pl=none/\plA=none)∨(pl=some p/\plA=some b/\h'=h.set p o/\lh'=lh.set b (.cells az ty)/\p<h.length/\b<lh.length))->ν p=none->HR w0 (zJ ν p (some (b,c,e))) nV nS h' lh'->bT LP (At p h') Q2->KA b lh'):place plA lh (.cells az ty) KA:=by
 rcases hp with ⟨rfl,rfl⟩|⟨p,rfl,rfl⟩
 ·simp [gr]at hs
  rw[b6,yX]at hs;have hp:=hh.dom h.length (D7 _)
  let ⟨M,_⟩:=hh.put (h':=h++[o]) (lh':=lh++[.cells az ty]) (p:=h.length) (b:=lh.length) (c:=c) (e:=e) (o:=o) (az:=az) (ty:=ty) hp au au
   (fun k hk=>by
     rw[Ei];split
     ·rfl
     ·rw[Do (by simp;omega),Do K])
   au
   (fun k hk=>by
     rw[Ei];split
     ·rfl
     ·rw[Do (by simp;omega),Do K])
   (by simp[isCells]) au
   (λk hk _=>by let ⟨_,_,g3⟩:=hh.blk k _ hk;have:=(List.getElem?_eq_some_iff.1 g3).1;omega)
   YK (hb _ _ _ au hp)
  exact hK _ _ _ _ (.inl ⟨rfl,rfl⟩) hp M hs
 ·simp [gr,DG]at hs
  split at hs
  ·rename_i hd
   rw[iX]at hs
   let ⟨g1,g2,g3⟩:=hh.blk p _ hd
   refine⟨g3,?_⟩;have Q7:=(List.getElem?_eq_some_iff.1 hd).1;have hlt':=(List.getElem?_eq_some_iff.1 g3).1
   let ⟨M,_⟩:=hh.put (h':=h.set p o) (lh':=lh.set (nS+(p-nV)) (.cells az ty)) (p:=p) (b:=nS+(p-nV)) (c:=c) (e:=e) (o:=o) (az:=az) (ty:=ty) g1 (by simpa using Q7) (by simp[Q7])
    (λk hk=>by simp[hk.symm]) (by simp[hlt']) (λk hk=>by simp[hk.symm]) (by rw[g3];rfl) au
    (λk hk Rw e1=>by let ⟨_,k2,_⟩:=hh.blk k _ hk;omega)
    YK (hb _ _ _ (by simp[hlt']) g1)
   exact hK _ _ _ _ (.inr ⟨rfl,rfl,rfl,rfl,Q7,hlt'⟩) g1 M hs
  ·exact hs.elim
theorem HR.set (hh:HR w0 ν nV nS h lh) {k b c e:Nat} {o:Ax} {az:List ak} {ty:TypeId} (hk:bk h k) (hν:ν k=some (some (b,c,e))) (hc:isCells lh[b]? = true) (Zy:fj [o] 0=true)
 (oZ:Fx w0 ν nV nS (lh.set b (.cells az ty)) k o):HR w0 ν nV nS (h.set k o) (lh.set b (.cells az ty)):=by
 have Wg:k<h.length:=by rcases gx hk with ⟨_,_,g⟩|⟨_,_,_,_,g⟩<;>exact(List.getElem?_eq_some_iff.1 g).1
 have hlive:∀ j,bk (h.set k o) j->bk h j:=λj hj=>by
  by_cases e1:j=k
  ·subst e1;exact hk
  ·unfold bk fj at *;rw[DG]at *;rw[Db,C4 (Ne.symm e1)]at hj;exact hj
 refine⟨λj o' hj=>?_,λj j' x x' M N=>hh.inj j j' x x' (hlive j M) (hlive j' N),λj hj=>hh.dom j (by simpa using hj),λj x hx=>by simpa using hh.rng j x hx,λj as' ty' hj=>?_,λj x hj hx=>hh.zn j x (hlive j hj) hx⟩
 case refine_2=>
  rw[Db,C4 λe2=>?_]
  ·exact hh.zl j as' ty' hj
  ·subst e2;exact nl (hh.zn k _ hk hν) _ _ hj
 by_cases e1:j=k
 ·subst e1;rw[Db,CV rfl,CV Wg]at hj;cases hj;exact oZ
 ·rw [Db,C4 (Ne.symm e1)]at hj
  by_cases hd:o'=.dead
  ·subst hd
   let ⟨g1,g2,g3⟩:=hh.blk j _ hj
   refine⟨g1,g2,?_⟩;rw[Db,C4 (λe2=>by rw[← e2]at g3;rw[g3]at hc;cases hc)];exact g3
  ·by_cases hl:o'=.hid
   ·subst hl;trivial
   ·refine d7 (Nu.sub_refl ν) hd (λb' as' ty' g1 g2=>?_) (hh.blk j _ hj)
    rw[Db,C4]
    ·exact g1
    ·intro e2
     subst e2
     let ⟨c',e',g3⟩:=g2
     have Vj:bk h j:=by unfold bk fj;rw[DG,hj];cases o'<;>first|rfl|exact(hd rfl).elim|exact(hl rfl).elim
     exact e1 (hh.inj j k _ _ Vj hk g3 hν rfl)
theorem HR.hide1 (hh:HR w0 ν nV nS h lh) (k:Nat):HR w0 ν nV nS (h.set k .hid) lh:=by
 have hlive:∀ j,bk (h.set k .hid) j->bk h j:=λj hj=>by
  by_cases e1:k=j
  ·subst e1;exfalso;rcases gx hj with ⟨_,_,g⟩|⟨_,_,_,_,g⟩<;>(rw[Db,CV rfl]at g;split at g<;>cases g)
  ·unfold bk fj at *;rw[DG]at *
   rw[Db,C4 e1]at hj;exact hj
 refine⟨λj o hj=>?_,λj j' x x' M N=>hh.inj j j' x x' (hlive j M) (hlive j' N),λj hj=>hh.dom j (by simpa using hj),hh.rng,hh.zl,λj x hj hx=>hh.zn j x (hlive j hj) hx⟩;rw[Db]at hj;split at hj
 ·split at hj
  ·cases hj;trivial
  ·cases hj
 ·exact hh.blk j o hj
end
section
variable {w0:World} {ν ν':Nu} {nV nS QG:Nat} {h h':List Ax} {lh lh':List ar} {α:Type} {LP:fD} {Q2:α->Prop} {e:bS} {sl:List ak} {ctx:Bool}
theorem Ph (a:Addr) (i j:Nat):(a.add i).add j=a.add (i+j):=by
 unfold Addr.add;by_cases hi:i=0
 ·subst hi;simp
 ·by_cases hj:j=0
  ·subst hj;simp
  ·have:¬ (i+j=0):=by omega
   simp[hi,hj,this,I5]
theorem hfo2 (p:jh) (i j:Nat):(p.add i).add j=p.add (i+j):=by
 cases p with
 |l k off=>simp[jh.add,I5]|g a=>simp[jh.add,Ph]
theorem hkk {a:Addr} {n i m:Nat} {az:List ak} (hg:gP w0 a 0 n=some az) (R8:i+m<=n):gP w0 (a.add i) 0 m=some ((az.drop i).take m):=by
 obtain⟨vs,rfl,hl,hc⟩:=e7 n 0 az hg;have:=kZ (w:=w0) (a:=a.add i) ((vs.drop i).take m) 0 (λj v hv=>by
  rw[En]at hv;split at hv
  ·rw[Fz]at hv;rw[Ph];have:=hc (i+j) v hv;simpa using this
  ·cases hv)
 rw[show((vs.drop i).take m).length=m by simp;omega]at this;rw[this];simp
theorem ahU {z:List ar} {p:jh} {n i m:Nat} {az:List ak} (hl:lds w0 z p n=some az) (R8:i+m<=n) (hz:wY z lh):lds w0 lh (p.add i) m=some ((az.drop i).take m):=by
 cases p with
 |g a=>exact hkk hl R8
 |l k off=>
   have N:=yy hz hl;simp[lds,jh.add]at N ⊢;split at N
   ·rename_i cs ty hk
    split at N
    ·rename_i hlen;cases N;rw[CV K,JU,H1,HJ,Ig K]
    ·cases N
   ·cases N
theorem tk {p:jh} {n:Nat} {az:List ak} (hl:lds w0 lh p n=some az):az.length=n:=by
 cases p with
 |l k off=>
   simp[lds]at hl;split at hl
   ·split at hl
    ·cases hl;simp;omega
    ·cases hl
   ·cases hl
 |g a=>obtain⟨vs,rfl,N,_⟩:=e7 n 0 az hl;simpa using N
theorem hoj {z:List ar} {p:jh} {n:Nat} {az:List ak} {x:ak} (hl:lds w0 z p n=some az) (hx:az[0]? = some x) (hz:wY z lh):ld w0 lh p=some x:=by
 cases p with
 |g a=>
   obtain⟨vs,rfl,N,h3⟩:=e7 n 0 az hl;rw[List.getElem?_map]at hx;cases hv:vs[0]? with
   |none=>rw[hv]at hx;cases hx
   |some v=>rw[hv]at hx;cases hx;have:=h3 0 v hv;simp[Addr.add]at this;simp[ld,this]
 |l k off=>
   have N:=yy hz hl;simp[lds]at N;split at N
   ·rename_i cs ty hk
    split at N
    ·cases N
     simp[ld,hk];rw[En]at hx;split at hx
     ·rw[Fz]at hx;exact hx
     ·cases hx
    ·cases N
   ·cases N
theorem Fy {v:V} {a:ak} {At:V->Bh α} (hc:ctx=true) (hv:vr w0 lh ν v a) (hs:bT LP (jo ctx v At) Q2):∃ u,vr w0 lh ν u a/\bT LP (At u) Q2:=by
 unfold jo at hs;split at hs
 ·rename_i b u;simp[bT]at hs;simp[vr]at hv;subst hc;exact⟨u,hv.1 (hs.1 rfl),hs.2⟩
 ·exact⟨_,hv,hs⟩
theorem aav {v:V} {a:ak} {At:V->Bh α} (hc:ctx=true) (hv:vr w0 lh ν v a) (hs:bT LP (jo ctx v At) Q2):∃ u,vr w0 lh ν u a/\bT LP (At u) Q2/\∀ h l,kF h v=some l->u=v:=by
 unfold jo at hs;split at hs
 ·rename_i b u;simp[bT]at hs;simp[vr]at hv;subst hc;exact⟨u,hv.1 (hs.1 rfl),hs.2,λh l hn=>by simp[kF]at hn⟩
 ·exact⟨_,hv,hs,λ_ _ _=>rfl⟩
theorem bR {x:gk} {At:V->Bh α} (Qb:gU w0 ν QG e sl) (hc:ctx=true) (hs:bT LP (jo ctx (dT e x) At) Q2):∃u,vr w0 ν.z ν u (arg sl x)/\bT LP (At u) Q2:=Fy hc (Qb.arg x) hs
theorem mD (Qb:gU w0 ν QG e sl) (hc:ctx=true):∀ {xs:List gk} {At:List V->Bh α},bT LP (wb ctx e xs At) Q2->∃ us,bI w0 ν.z ν us (xs.map (arg sl))/\bT LP (At us) Q2
 |[],At,hs=>⟨[],by simp[bI],hs⟩
 |x::xs,At,hs=>by
   simp[wb]at hs
   let ⟨u,M,N⟩:=bR Qb hc hs
   let ⟨us,h3,h4⟩:=mD Qb hc N
   exact⟨u::us,by simp only[E8,bI];exact⟨_,_,rfl,M,h3⟩,h4⟩
def II (w0:World) (ν:Nu):Option V->Option ak->Prop
 |none,a=>a=none|some v,a=>∃x,a=some x/\vr w0 ν.z ν v x
theorem mw (Qb:gU w0 ν QG e sl) (hc:ctx=true) {x:Option gk} {At:Option V->Bh α} (hs:bT LP (v8 ctx e x At) Q2):∃ u,II w0 ν u (x.map (arg sl))/\bT LP (At u) Q2:=by
 cases x with
 |none=>exact⟨none,rfl,hs⟩
 |some x=>
   simp[v8]at hs
   let ⟨u,M,N⟩:=bR Qb hc hs
   exact⟨some u,⟨_,rfl,M⟩,N⟩
theorem EU {p:Prop} [Decidable p] {x:Bh α} (hc:ctx=true) (hs:bT LP (zy ctx p x) Q2):p/\bT LP x Q2:=by simp[zy,bT]at hs;subst hc;exact⟨by simpa using hs.1 rfl,hs.2⟩
theorem eR {x:Option V} {xa:Option ak} {y d:Nat} {At:Nat->Bh α} {KA:Nat->Prop} (hc:ctx=true) (hx:II w0 ν x xa) (hs:bT LP (ol ctx x y d At) Q2) (hK:∀ n,(x=none->n=d)->(x≠none->n<=y)->bT LP (At n) Q2->KA n):bnd xa y d KA:=by
 cases x with
 |none=>simp[II]at hx;subst hx;exact hK d (λ_=>rfl) (λh=>(h rfl).elim) hs
 |some v=>
   simp[II]at hx;obtain⟨a,rfl,hv⟩:=hx;cases v<;>simp[ol]at hs<;>try exact hs.elim
   simp[vr]at hv;subst hv
   let ⟨⟨M,N⟩,h3⟩:=EU hc hs
   exact⟨M,N,hK _ (λh=>by cases h) (λ_=>by omega) h3⟩
theorem u4 {x:Option V} {xa:Option ak} {y y' d:Nat} {KA:Nat->Prop} (hy:y<=y') (hb:bnd xa y d KA):bnd xa y' d KA:=by
 unfold bnd at *
 split at hb
 ·exact hb
 ·exact⟨hb.1,K,hb.2.2⟩
 ·exact hb.elim
theorem vc (Qb:gU w0 ν QG e sl) (hc:ctx=true):∀ {ps:List (Nat×Nat×gk)} {z:List V} {za:List ak} {At:List V->Bh α} {KA:List ak->Prop},bI w0 ν.z ν z za->bT LP (rV ctx e ps z At) Q2 ->
 (∀cs az,bI w0 ν.z ν cs az->bT LP (At cs) Q2->KA az)->parts sl ps za KA
 |[],z,za,At,KA,hz,hs,hK=>hK z za hz hs
 |(off,n,x)::ps,z,za,At,KA,hz,hs,hK=>by
   simp[rV]at hs
   let ⟨v,M,N⟩:=bR Qb hc hs
   cases hf:(v.flat&&Nat.beq (cg v.cells) n) with
   |false=>rw[hf]at N;exact N.elim
   |true=>
     rw[hf]at N;simp[cond_true]at N;simp only[D2]at hf
     let ⟨g1,g2⟩:=xU M hf.1
     have g3:=DT hf.2;rw[b6]at g3;split at N
     ·rename_i z' YU;have hl:=qI YU;have:=bY g2;have XH:=bY hz;exact⟨g1,K,K,vc Qb hc (yO hz g2 YU) N hK⟩
     ·exact N.elim
def uC (w0:World) (Q1:FuncId->ca) (LP:fD) (md:Bool) (cf:CF α):Prop:=∀ (f:FuncId) (vs:List V) (h:List Ax) (At:V->List Ax->Bh α) (Q2:α->Prop) (ν:Nu) (nV nS:Nat) (args:List ak) (lh:List ar) (KA:ak->List ar->Prop),
 bI w0 ν.z ν vs args->HR w0 ν nV nS h lh->bT LP (cf f vs h At) Q2->(∀v h' ν' a lh',(md=true->ν'=ν/\h'=h/\lh'=lh)->ν.sub ν'->HR w0 ν' nV nS h' lh'->vr w0 ν'.z ν' v a->bT LP (At v h') Q2->KA a lh')->Q1 f w0 args lh KA
structure zR (ν ν':Nu) (wn:List Nat) (pl plA:Option Nat) (h h':List Ax) (lh lh':List ar):Prop where
 len:lh'.length=lh.length
 chg:∀j,plA ≠ some j->(∀k x,k ∈ wn->ν k=some (some x)->x.1 ≠ j)->lh'[j]? = lh[j]?
 nw:∀k x,ν' k=some x->ν k=some x∨(pl=some k/\∀y,x=some y->(plA=some y.1∨∃k0 z,k0∈wn/\ν k0=some (some z)/\z.1=y.1))
 hlen:h'.length=h.length
 liv:∀k,bk h' k->bk h k∨pl=some k
 zz:ν'.z=ν.z
theorem zR.refl (ν:Nu) (wn:List Nat) (pl plA:Option Nat) (h:List Ax) (lh:List ar):zR ν ν wn pl plA h h lh lh:=⟨rfl,λ_ _ _=>rfl,λ_ _ h=>.inl h,rfl,λ_ h=>.inl h,rfl⟩
theorem Gp (hh:HR w0 ν nV nS h lh) {v u:V} {a:ak} (hv:vr w0 ν.z ν v a) (hl:KH h v=some u) (Ux:∀ k i j,v=.pe k i j->∀ e n f ty,h[k]? = some (.gl e n f ty)->i<n):∃ p x,a=.ptr (some p)/\ld w0 lh p=some x/\vr w0 ν.z ν u x:=by
 unfold KH at hl;split at hl
 ·rename_i k off
  rw[DG]at hl;split at hl
  ·rename_i cs ty hk
   rw[DG]at hl
   let ⟨b,c,e,az,M,N,h3⟩:=hh.blk k _ hk
   simp only[vr]at hv;obtain⟨b',c',e',h4,rfl⟩:=hv;rw[M]at h4;obtain⟨rfl,rfl,rfl⟩:_=b'/\_=c'/\_=e':=by simpa using h4
   let ⟨x,h5,h6⟩:=oO h3 hl
   exact⟨_,x,rfl,by simp[ld,N];exact h5,h6⟩
  ·cases hl
 ·rename_i k i j
  rw[DG]at hl;split at hl
  ·rename_i e n f ty hk
   rw[DG]at hl;have hi:=Ux k i j rfl _ _ _ _ hk;simp[vr]at hv;obtain⟨b',c',e',h4,rfl⟩:=hv;rcases hh.blk k _ hk with ⟨M,N⟩|⟨b,c,az,M,N,h3,hn,h5⟩
   ·omega
   ·rw [M]at h4
    obtain⟨rfl,rfl,rfl⟩:_=b'/\_=c'/\_=e':=by simpa using h4
    let ⟨x,h6,h7⟩:=oO (h5 i hi).2 hl
    refine⟨_,x,rfl,?_,h7⟩;rw[En]at h6;split at h6
    ·rw[Fz]at h6;simp[ld,N];exact h6
    ·cases h6
  ·cases hl
 ·rename_i cs
  rw[DG]at hl;simp only[vr]at hv;obtain⟨p,az,rfl,_,N,h3,_⟩:=hv
  let ⟨x,h4,h5⟩:=oO h3 hl
  exact⟨p,x,rfl,hoj N h4 hh.zl,amW (Nu.nil_sub ν) _ _ h5⟩
 ·cases hl
theorem awD (hh:HR w0 ν nV nS h lh) {v:V} {m:Nat} {us:List V} {a:ak} (hv:vr w0 ν.z ν v a) (hl:V4 h m v=some us) (Ux:∀ k i j,v=.pe k i j->∀ e n f ty,h[k]? = some (.gl e n f ty)->i<n):∃ p xs,a=.ptr (some p)/\lds w0 lh p m=some xs/\bI w0 ν.z ν us xs:=by
 unfold V4 at hl;split at hl
 ·rename_i k off
  rw[DG]at hl;split at hl
  ·rename_i cs ty hk
   obtain⟨g1,rfl⟩:=tW hl;obtain⟨b,c,e,az,M,N,h3⟩:=hh.blk k _ hk;simp only[vr]at hv;obtain⟨b',c',e',h4,rfl⟩:=hv;rw[M]at h4;obtain⟨rfl,rfl,rfl⟩:_=b'/\_=c'/\_=e':=by simpa using h4
   refine⟨_,_,rfl,?_,ja m (gY off h3)⟩;simp only[lds,N];rw[CV (by have:=bY h3;omega)]
  ·cases hl
 ·rename_i k i j
  rw[DG]at hl;split at hl
  ·rename_i e n f ty hk
   obtain⟨g1,rfl⟩:=tW hl;have hi:=Ux k i j rfl _ _ _ _ hk;simp[vr]at hv;obtain⟨b',c',e',h4,rfl⟩:=hv;rcases hh.blk k _ hk with ⟨M,N⟩|⟨b,c,az,M,N,h3,hn,h5⟩
   ·omega
   ·rw[M]at h4
    obtain⟨rfl,rfl,rfl⟩:_=b'/\_=c'/\_=e':=by simpa using h4
    obtain⟨ho,R3⟩:=h5 i hi;have hlen:=bY R3;unfold nX at ho;simp only[D2]at ho;have h8:=DT ho.1;rw[b6]at h8;have R8:i*e+e<=c*e:=by rw[← E5];exact EA e K
    refine⟨_,_,rfl,?_,ja m (gY j R3)⟩;simp only[lds,N];rw[CV K,JU,H1,HJ,Ig K]
  ·cases hl
 ·rename_i cs
  obtain⟨g1,rfl⟩:=yS hl;simp only[vr]at hv;obtain⟨p,az,rfl,_,N,h3,_⟩:=hv;refine⟨p,az.take m,rfl,?_,ja m (lF (Nu.nil_sub ν) _ _ h3)⟩;have:=ahU (i:=0) (m:=m) N K hh.zl;have e0:p.add 0=p:=by cases p<;>simp[jh.add,Addr.add]
  rw[e0]at this;simpa using this
 ·cases hl
theorem w9 {v:V} {x:Bh α} (hc:ctx=true) (hs:bT LP (Xb ctx h v x) Q2):(∀ k i j,v=.pe k i j->∀ e n f ty,h[k]? = some (.gl e n f ty)->i<n)/\bT LP x Q2:=by
 unfold Xb at hs;split at hs
 ·rename_i k i j
  rw[DG]at hs;split at hs
  ·rename_i e n f ty hk
   let ⟨M,N⟩:=EU hc hs
   exact⟨λk' i' j' he e' n' f' ty' Rv=>by cases he;rw[hk]at Rv;cases Rv;exact M,N⟩
  ·exact hs.elim
 ·rename_i Rw;exact⟨λk i j he=>(Rw k i j he).elim,hs⟩
theorem xW:∀ (us az:List ak) (off t:Nat),off+us.length<=az.length->(wr az off us)[t]? = if off<=t/\t<off+us.length then us[t-off]? else az[t]?
 |[],az,off,t,h=>by simp only[wr];rw[C4 (by simp only[FL];omega)]
 |u::us,az,off,t,h=>by
   simp only[wr];simp only[EO]at h;rw[xW us _ _ _ (by simp;omega)];by_cases M:off+1<=t/\t<off+1+us.length
   ·rw[CV M,CV ⟨K,by simp;omega⟩,show t-off=(t-(off+1))+1 by omega];simp
   ·rw [C4 M]
    by_cases N:t=off
    ·subst N;rw[Db,CV rfl,CV K,CV ⟨D7 _,au⟩];simp
    ·rw[Db,C4 (Ne.symm N),C4 (by simp;omega)]
theorem hm' {az us:List ak} {e i i' j:Nat} (Rw:i'≠i) (hj:j+us.length<=e) (hl:i*e+j+us.length<=az.length):((wr az (i*e+j) us).drop (i'*e)).take e=(az.drop (i'*e)).take e:=by
 apply F4;intro t;rw[En,En];split
 ·rename_i ht
  rw[Fz,Fz,xW _ _ _ _ hl,C4];intro ⟨M,N⟩;rcases Fa i' i with h3|h3
  ·have:i'*e+e<=i*e:=by rw[← E5];exact EA e h3
   omega
  ·have:i*e+e<=i'*e:=by rw[← E5];exact EA e K
   omega
 ·rfl
theorem hnj {az us:List ak} {e i j:Nat} (hj:j+us.length<=e) (hl:i*e+e<=az.length):((wr az (i*e+j) us).drop (i*e)).take e=wr ((az.drop (i*e)).take e) j us:=by
 apply F4;intro t;rw[xW _ _ _ _ (by simp;omega),En];split
 ·rename_i ht
  rw[Fz,xW _ _ _ _ K];by_cases M:j<=t/\t<j+us.length
  ·rw[CV M,CV K];congr 1;omega
  ·rw[C4 M,C4 K,En,CV ht,Fz]
 ·rename_i ht;rw[C4 K,En,C4 ht]
theorem xB:∀ {cs:List V} {off:Nat} {xs r:List V},sh cs off xs=some r->cs.all V.one=true->xs.all V.one=true->r.all V.one=true
 |cs,0,[],r,h,M,N=>by simp[sh]at h;subst h;exact M
 |[],0,x::xs,r,h,M,N=>by simp[sh]at h
 |c::cs,0,x::xs,r,h,M,N=>by
   simp[sh]at h;split at h
   ·rename_i r' hr;cases h;simp only[EJ,D2]at M N ⊢;exact⟨N.1,xB hr M.2 N.2⟩
   ·cases h
 |[],off+1,xs,r,h,M,N=>by simp[sh]at h
 |c::cs,off+1,xs,r,h,M,N=>by
   simp[sh]at h;split at h
   ·rename_i r' hr;cases h;simp only[EJ,D2]at M ⊢;exact⟨M.1,xB hr M.2 N⟩
   ·cases h
theorem Gn:∀ (cs:List V) (j:Nat) (xs:List V),j+xs.length<=cs.length->sh cs j xs=some (cs.take j++(xs++cs.drop (j+xs.length)))
 |cs,0,[],_=>by simp[sh]
 |[],0,x::xs,h=>by simp at h
 |c::cs,0,x::xs,h=>by simp[sh];rw[Gn cs 0 xs (by simp at h ⊢;omega)];simp
 |[],j+1,xs,h=>by simp at h
 |c::cs,j+1,xs,h=>by simp[sh];rw[Gn cs j xs (by simp at h;omega)];simp[show j+1+xs.length=(j+xs.length)+1 by omega]
theorem aif (cs:List V) (j:Nat) (xs:List V):∀ (m t k:Nat),(YG cs j xs t m)[k]? = if k<m then some (cond (Nat.ble j (t+k)&&Nat.blt (t+k) (j+cg xs)) (Li xs (t+k-j)) (Li cs (t+k))) else none
 |0,t,k=>by simp[YG]
 |m+1,t,0=>by simp[YG]
 |m+1,t,k+1=>by
   simp only[YG,Eu];rw[aif cs j xs m (t+1) k,show t+1+k=t+(k+1) by omega];by_cases h:k<m
   ·rw[CV h,CV K]
   ·rw[C4 h,C4 K]
theorem uV {l:List V} {i:Nat} (h:i<l.length):l[i]? = some (Li l i):=by unfold Li;rw[DG,EZ h]
theorem azv {e:Nat} {cs:List V} (h:cs.length=e) (j:Nat) (xs:List V):KV e cs j xs=sh cs j xs:=by
 unfold KV;rw[b6];cases hb:Nat.ble (j+xs.length) e with
 |false=>
   cases hw:sh cs j xs with
   |none=>rfl
   |some r=>have:=(qI hw).1;rw[Ey K]at hb;cases hb
 |true=>
   have R8:=Dc hb;rw[Gn cs j xs K];simp[cond_true,DJ];apply F4;intro k;rw[aif,EB,b6,Ei,Ei,En,Fz,Kw];by_cases M:k<j
   ·have SE:Nat.ble j k=false:=by
     cases hq:Nat.ble j k with
     |false=>rfl|true=>have:=Dc hq;omega
    rw[CV K,CV K,CV M,SE];exact(uV K).symm
   ·have SE:Nat.ble j k=true:=Ey K
    by_cases N:k<j+xs.length
    ·have Rq:Nat.blt k (j+xs.length)=true:=Ey N;rw[CV K,C4 K,CV K,SE,Rq,show min j cs.length=j by omega];exact(uV K).symm
    ·have Rq:Nat.blt k (j+xs.length)=false:=by
      cases hq:Nat.blt k (j+xs.length) with
      |false=>rfl|true=>have:=Dc hq;omega
     have e1:j+xs.length+(k-min j cs.length-xs.length)=k:=by omega
     by_cases h3:k<e
     ·rw[CV h3,C4 K,C4 K,SE,Rq,e1];exact(uV K).symm
     ·rw[C4 h3,C4 K,C4 K,e1,Do K]
theorem hnl {v:V} (h:v.flat=true):v.cells.all V.one=true:=by cases v<;>first|exact h|(simp[V.flat,V.cells,V.one]at h ⊢)
theorem dwH (hh:HR w0 ν nV nS h lh) {v:V} {xs:List V} {us:List ak} {a:ak} (hv:vr w0 ν.z ν v a) (hx:bI w0 ν.z ν xs us) (ho:xs.all V.one=true) (hl:XP h xs v=some h') (Ux:∀ k i j,v=.pe k i j->∀ e n f ty,h[k]? = some (.gl e n f ty)->i<n) :
 ∃b off cs ty k c e,a=.ptr (some (.l b off))/\lh[b]? = some (.cells cs ty)/\off+us.length<=cs.length/\HR w0 ν nV nS h' (lh.set b (.cells (wr cs off us) ty))/\kF h v=some [k]/\ν k=some (some (b,c,e)):=by
 unfold XP at hl;split at hl
 ·rename_i k off
  rw[DG]at hl;split at hl
  ·rename_i cs ty hk
   split at hl
   ·rename_i r hr
    cases hl
    let ⟨b,c,e,az,M,N,h3⟩:=hh.blk k _ hk
    simp only[vr]at hv;obtain⟨b',c',e',h4,rfl⟩:=hv;rw[M]at h4;obtain⟨rfl,rfl,rfl⟩:_=b'/\_=c'/\_=e':=by simpa using h4
    have Wh:=eK hk;have Q7:=(List.getElem?_eq_some_iff.1 N).1;refine⟨b,off,az,ty,k,c,e,rfl,N,by have:=qI hr;have:=bY h3;have:=bY hx;omega,?_,?_,M⟩
    ·rw[iX];refine hh.set Wh M (by rw[N];rfl) rfl ⟨b,c,e,wr az off us,M,by simp[Q7],yO h3 hx hr⟩
    ·simp[kF];unfold bk at Wh;rw[Wh];rfl
   ·cases hl
  ·cases hl
 ·rename_i k i j
  rw[DG]at hl;split at hl
  ·rename_i e n f ty hk
   cases Sj:Nat.ble (j+cg xs) e with
   |false=>rw[Sj]at hl;cases hl
   |true=>
     rw[Sj]at hl;cases hl;have hr:KV e (f i) j xs=some (YG (f i) j xs 0 e):=by unfold KV;rw[Sj];rfl
     revert hr;generalize VD:YG (f i) j xs 0 e=r;intro hr;have hi:=Ux k i j rfl _ _ _ _ hk;simp[vr]at hv;obtain⟨b',c',e',h4,rfl⟩:=hv;have Wh:=im hk;rcases hh.blk k _ hk with ⟨M,N⟩|⟨b,c,az,M,N,h3,hn,h5⟩
     ·omega
     ·rw [M]at h4
      obtain⟨rfl,rfl,rfl⟩:_=b'/\_=c'/\_=e':=by simpa using h4
      have Q7:=(List.getElem?_eq_some_iff.1 N).1
      let ⟨TN,R3⟩:=h5 i hi
      have izb12:=bY hx;have hlen:=bY R3;unfold nX at TN;simp only[D2]at TN;have h8:=DT TN.1;rw[b6]at h8;rw[azv h8]at hr;have nw10:=qI hr;have R8:i*e+e<=c*e:=by rw[← E5];exact EA e K
      refine⟨b,i*e+j,az,ty,k,c,e,rfl,N,K,?_,?_,M⟩
      ·rw [iX]
       refine hh.set Wh M (by rw[N];rfl) rfl (.inr ⟨b,c,wr az (i*e+j) us,M,by simp[Q7],by rw[qC];exact h3,hn,λi' Rn=>?_⟩);by_cases he:i'=i
       ·subst he
        simp[WP,Nat.beq_refl,cond_true,VD];refine⟨?_,?_⟩
        ·unfold nX;simp only[D2];exact⟨by rw[b6,nw10.2,h8];simp,xB hr TN.2 ho⟩
        ·rw[hnj K K];exact yO R3 hx hr
       ·have:Nat.beq i' i=false:=by
         cases hb:Nat.beq i' i with
         |false=>rfl|true=>exact(he (DT hb)).elim
        simp[WP,this,cond_false];refine⟨(h5 i' Rn).1,?_⟩;rw[hm' he K K];exact(h5 i' Rn).2
      ·simp[kF];unfold bk at Wh;rw[Wh];rfl
  ·cases hl
 ·cases hl
end
section
variable {w0:World} {ν ν':Nu} {nV nS QG:Nat} {h h':List Ax} {lh lh':List ar} {α:Type} {LP:fD} {Q2:α->Prop} {e:bS} {sl:List ak} {ctx:Bool}
theorem dA:∀ {n:Nat} {p:Nat->Bool},dw n p=true->∀ i,i<n->p i=true
 |0,p,_,i,hi=>by omega
 |n+1,p,hp,i,hi=>by
   simp[dw,D2]at hp;by_cases e:i=n
   ·subst e;exact hp.2
   ·exact dA hp.1 i K
theorem fO:∀ {n:Nat} {p:Nat->Bool},(∀ i,i<n->p i=true)->dw n p=true
 |0,p,_=>rfl|n+1,p,hp=>by simp[dw,D2];exact⟨fO λi hi=>hp i K,hp n K⟩
theorem hir {a:Addr}:∀ (n i:Nat),(∀ t,t<n->∃ v,w0.cell? (a.add (i+t))=some v)->∃ az,gP w0 a i n=some az
 |0,i,_=>⟨[],rfl⟩
 |n+1,i,hc=>by
   let ⟨v,hv⟩:=hc 0 K
   obtain⟨az,has⟩:=hir n (i+1) (λt ht=>by have:=hc (t+1) K;rw[show i+1+t=i+(t+1) by omega];exact this);exact⟨bU v::az,by simp[gP,has];simp[GE]at hv;rw[hv]⟩
theorem oA {esz:Nat} {l:List V} (ho:nX esz l=true):l.length=esz/\l.all V.one=true:=by unfold nX at ho;simp only[D2]at ho;exact⟨by rw[← b6];exact DT ho.1,ho.2⟩
theorem Hr {esz:Nat} {l:List V} (M:l.length=esz) (N:l.all V.one=true):nX esz l=true:=by unfold nX;rw[b6,M,N];simp
theorem j8 {esz:Nat}:∀ {n:Nat} {az:List ak},az.length=n*esz->(∀ i,i<n->((az.drop (i*esz)).take esz).all ak.one=true)->az.all ak.one=true
 |0,az,hl,_=>by simp at hl;subst hl;rfl
 |n+1,az,hl,hc=>by rw[← Kx esz az,List.all_append,D2];refine⟨by have:=hc 0 K;simpa using this,j8 (esz:=esz) (n:=n) (by simp[hl,E5]) (λi hi=>?_)⟩;have:=hc (i+1) K;rw[H1,show esz+i*esz=(i+1)*esz by rw[E5];omega];exact this
theorem oK {az:List ak} {n esz i:Nat} (hi:i<n):((az.take (n*esz)).drop (i*esz)).take esz=(az.drop (i*esz)).take esz:=by
 have:i*esz+esz<=n*esz:=by rw[← E5];exact EA esz hi
 rw[JU,HJ,Ig K]
theorem hoi {α:Type} {az:List α} {n esz i:Nat} (hl:az.length=n*esz) (hi:i<n):((az.drop (i*esz)).take esz).length=esz:=by
 have:i*esz+esz<=n*esz:=by rw[← E5];exact EA esz hi
 simp;omega
theorem ahM {α:Type} {p:α->Bool} {l:List α} (a b:Nat) (hl:l.all p=true):((l.drop a).take b).all p=true:=by
 rw[If]at *
 exact λx hx=>hl x (List.mem_of_mem_drop (List.mem_of_mem_take hx))
theorem auF (hh:HR w0 ν nV nS h lh) {x:V} {a:ak} {esz m:Nat} {g:be} (hv:vr w0 ν.z ν x a) (hs:F8 h esz x=some (m,g,true)) :
 ∃Pw c new,a=.slice Pw m c/\cellsOf w0 lh Pw (m*esz)=some new/\new.length=m*esz/\new.all ak.one=true/\∀i,i<m->nX esz (g i)=true/\bI w0 ν.z ν (g i) ((new.drop (i*esz)).take esz):=by
 unfold F8 at hs;split at hs
 ·cases hs;simp only[vr]at hv;subst hv;exact⟨none,0,[],rfl,by simp[cellsOf],au,rfl,λi hi=>by omega⟩
 ·rename_i n f
  simp only[DJ,Prod.mk.injEq]at hs;obtain⟨rfl,rfl,TN⟩:=hs;have TN:=dA TN;simp only[vr]at hv;obtain⟨p,c,esz',rfl,_,_,hp,RB⟩:=hv;cases n with
  |zero=>
    refine⟨p,c,[],rfl,?_,au,rfl,λi hi=>by omega⟩;cases p with
    |none=>simp[cellsOf]
    |some Pw=>cases Pw with|l k off=>obtain⟨cs,ty,M,N⟩:=hp;simp[cellsOf,lds,hh.zl _ _ _ M,N]|g a=>simp[cellsOf,lds,gP]
  |succ n=>
    obtain⟨Pw,as0,rfl,Zx,ti⟩:=RB 0 K;have RI:esz'=esz:=by have:=tk Zx;have M:=bY ti.1;have N:=(oA (TN 0 K)).1;omega
    subst RI;cases Pw with
    |l k off=>
      have hel':∀ i,i<n+1->∃ cs ty,ν.z[k]? = some (.cells cs ty)/\off+i*esz'+esz'<=cs.length/\bI w0 ν.z ν (f i) ((cs.drop (off+i*esz')).take esz'):=λi hi=>by
       obtain⟨q',az,e1,e2,e3,_⟩:=RB i hi;cases e1;simp only[jh.add,lds]at e2;split at e2
       ·rename_i cs ty hk
        split at e2
        ·rename_i R8;cases e2;exact⟨cs,ty,hk,R8,lF (Nu.nil_sub ν) _ _ e3⟩
        ·cases e2
       ·cases e2
      obtain⟨cs,ty,c1,c2,_⟩:=hel' n K;have hm:(n+1)*esz'=n*esz'+esz':=E5 n esz';have hlen:((cs.drop off).take ((n+1)*esz')).length=(n+1)*esz':=by simp;omega
      have SZ:∀i,i<n+1->nX esz' (f i)=true/\bI w0 ν.z ν (f i) ((((cs.drop off).take ((n+1)*esz')).drop (i*esz')).take esz'):=λi hi=>by obtain⟨cs',ty',d1,d2,ybd⟩:=hel' i hi;rw[c1]at d1;cases d1;refine⟨TN i hi,?_⟩;rw[oK hi,H1];exact ybd
      refine⟨_,c,_,rfl,?_,hlen,j8 hlen λi hi=>lw (SZ i hi).2 (oA (SZ i hi).1).2,SZ⟩;simp only[cellsOf,lds,hh.zl _ _ _ c1];rw[CV K]
    |g a=>
      have hel':∀i,i<n+1->∃az,gP w0 (a.add (i*esz')) 0 esz'=some az/\bI w0 ν.z ν (f i) az:=λi hi=>by obtain⟨q',az,e1,e2,e3,_⟩:=RB i hi;cases e1;exact⟨az,e2,lF (Nu.nil_sub ν) _ _ e3⟩
      obtain⟨new,hnew⟩:=hir (w0:=w0) (a:=a) ((n+1)*esz') 0 (λt ht=>by
       by_cases he:esz'=0
       ·subst he;simp at ht
       ·have hi:t / esz'<n+1:=by
         rw[Nat.div_lt_iff_lt_mul K];exact ht
        obtain⟨az,e1,_⟩:=hel' _ hi;obtain⟨vs,_,hl,hc⟩:=e7 _ _ _ e1;have hm:t % esz'<vs.length:=by rw[hl];exact I8 _ K
        have:=hc (t % esz') _ (EZ hm);rw[Ph]at this;rw[EB]at this;rw[Nat.mul_comm,Nat.div_add_mod]at this;exact⟨_,by rw[EB];exact this⟩)
      have hlen:new.length=(n+1)*esz':=by obtain⟨vs,rfl,N,_⟩:=e7 _ 0 new hnew;simpa using N
      have SZ:∀ i,i<n+1->nX esz' (f i)=true/\bI w0 ν.z ν (f i) ((new.drop (i*esz')).take esz'):=λi hi=>by
       obtain⟨az,e1,e2⟩:=hel' i hi;have R8:i*esz'+esz'<=(n+1)*esz':=by rw[← E5];exact EA esz' hi
       have:=hkk hnew R8;rw[e1]at this;cases this;exact⟨TN i hi,e2⟩
      exact⟨_,c,new,rfl,hnew,hlen,j8 hlen λi hi=>lw (SZ i hi).2 (oA (SZ i hi).1).2,SZ⟩
 ·rename_i k n
  rw[DG]at hs;split at hs
  ·rename_i e n' f ty hk
   cases he:Nat.beq e esz with
   |false=>rw[he]at hs;cases hs
   |true=>
     rw[he]at hs;have:=DT he;subst this;simp only[cond_true,DJ,Prod.mk.injEq]at hs;obtain⟨rfl,rfl,R8⟩:=hs;have R8:=Dc R8;simp only[vr]at hv;rcases hh.blk k _ hk with ⟨M,N⟩|⟨b,c,az,M,N,h3,hn,h5⟩
     ·rcases hv with ⟨_,h3,h4⟩|⟨b,c,e,h3,_⟩
      ·subst h3 h4;exact⟨none,0,[],rfl,by simp[cellsOf],au,rfl,λi hi=>by omega⟩
      ·rw[M]at h3;cases h3
     ·rcases hv with ⟨h6,_⟩|⟨b',c',e',h6,rfl,hnc0⟩
      ·rw[M]at h6;cases h6
      ·rw [M]at h6
       obtain⟨rfl,rfl,rfl⟩:_=b'/\_=c'/\_=e':=by simpa using h6
       have U2:n*e<=c*e:=EA e K;have hlen:(az.take (n*e)).length=n*e:=by simp;omega
       have SZ:∀i,i<n->nX e (f i)=true/\bI w0 ν.z ν (f i) (((az.take (n*e)).drop (i*e)).take e):=λi hi=>by rw[oK hi];exact h5 i K
       refine⟨_,c,az.take (n*e),rfl,?_,hlen,j8 hlen λi hi=>lw (SZ i hi).2 (oA (SZ i hi).1).2,SZ⟩;simp only[cellsOf,lds,N];rw[CV K];simp
  ·cases hs
 ·rename_i k off n c0
  rw[DG]at hs;split at hs
  ·rename_i cs ty hk
   split at hs
   ·rename_i ds Wc
    cases hd:ds.all V.one with
    |false=>rw[hd]at hs;cases hs
    |true=>
      rw[hd]at hs;simp only[cond_true]at hs;obtain⟨g1,rfl⟩:=tW Wc;obtain⟨b,c,e,az,M,N,h3⟩:=hh.blk k _ hk;simp only[vr]at hv;obtain⟨b',c',e',h4,rfl⟩:=hv;rw[M]at h4;obtain⟨rfl,rfl,rfl⟩:_=b'/\_=c'/\_=e':=by simpa using h4
      have Zs:=bY h3;have R3:=ja (n*esz) (gY off h3);have hlen:((az.drop off).take (n*esz)).length=n*esz:=by simp;omega
      have hlenV:((cs.drop off).take (n*esz)).length=n*esz:=by simp;omega
      have Ri:cellsOf w0 lh (some (.l b off)) (n*esz)=some ((az.drop off).take (n*esz)):=by simp only[cellsOf,lds,N];rw[CV K]
      have hone:=lw R3 hd;split at hs
      ·simp only[DJ,Prod.mk.injEq]at hs
       obtain⟨rfl,rfl,_⟩:=hs;refine⟨_,c0,_,rfl,Ri,hlen,hone,λi hi=>?_⟩;have:i=0:=by omega
       subst this;simp only[Nat.one_mul]at *
       refine⟨Hr hlenV hd,?_⟩;simp only[Nat.zero_mul,List.drop_zero,HJ,Nat.min_self];exact R3
      ·simp only[DJ,Prod.mk.injEq]at hs;obtain⟨rfl,rfl,_⟩:=hs;exact⟨_,c0,_,rfl,Ri,hlen,hone,λi hi=>⟨Hr (hoi hlenV hi) (ahM _ _ hd),ja esz (gY (i*esz) R3)⟩⟩
   ·cases hs
  ·cases hs
 ·rename_i k off n
  rw[DG]at hs;split at hs
  ·rename_i e n' f ty hk
   cases he:Nat.beq e esz with
   |false=>rw[he]at hs;cases hs
   |true=>
     rw[he]at hs;have:=DT he;subst this;simp only[cond_true,DJ,Prod.mk.injEq]at hs;obtain⟨rfl,rfl,R8⟩:=hs;have R8:=Dc R8;simp only[vr]at hv;rcases hh.blk k _ hk with ⟨M,N⟩|⟨b,c,az,M,N,h3,hn,h5⟩
     ·rcases hv with ⟨_,h3,_,h4⟩|⟨b,c,e,o,h3,_⟩
      ·subst h3 h4;exact⟨none,0,[],rfl,by simp[cellsOf],au,rfl,λi hi=>by omega⟩
      ·rw[M]at h3;cases h3
     ·rcases hv with ⟨h6,_⟩|⟨b',c',e',o,h6,rfl,⟨iz24,izb23⟩,iz23⟩
      ·rw[M]at h6;cases h6
      ·rw [M]at h6
       obtain⟨rfl,rfl,rfl⟩:_=b'/\_=c'/\_=e':=by simpa using h6
       by_cases U1:n=0
       ·subst U1;refine⟨_,c-off,[],rfl,?_,au,rfl,λi hi=>by omega⟩;simp only[cellsOf,lds,N];rw[CV K];simp
       ·have ho:=iz23 K
        subst ho;have U2:off*e+n*e<=c*e:=by rw[← FZ];exact EA e iz24
        have hlen:((az.drop (off*e)).take (n*e)).length=n*e:=by simp;omega
        have SZ:∀i,i<n->nX e (f (off+i))=true/\bI w0 ν.z ν (f (off+i)) ((((az.drop (off*e)).take (n*e)).drop (i*e)).take e):=λi hi=>by rw[oK hi,H1,← FZ];exact h5 (off+i) K
        refine⟨_,c-off,(az.drop (off*e)).take (n*e),rfl,?_,hlen,j8 hlen λi hi=>lw (SZ i hi).2 (oA (SZ i hi).1).2,SZ⟩;simp only[cellsOf,lds,N];rw[CV K]
  ·cases hs
 ·cases hs
theorem avW {esz n m:Nat} {f g:be} {old new tail az:List ak} (has:az=old++new++tail) (ho:old.length=n*esz) (hn:new.length=m*esz)
 (M:∀i,i<n->nX esz (f i)=true/\bI w0 ν.z ν (f i) ((old.drop (i*esz)).take esz)) (N:∀i,i<m->nX esz (g i)=true/\bI w0 ν.z ν (g i) ((new.drop (i*esz)).take esz)) :
 ∀i,i<n+m->nX esz (bb n f g i)=true/\bI w0 ν.z ν (bb n f g i) ((az.drop (i*esz)).take esz):=by
 intro i hi;subst has;unfold bb;by_cases Q7:i<n
 ·have hb:Nat.blt i n=true:=Ey Q7
  rw[hb];have:i*esz+esz<=n*esz:=by rw[← E5];exact EA esz Q7
  simp only[cond_true];rw[Ic,Km K,J9 (by simp;omega)];exact M i Q7
 ·have hb:Nat.blt i n=false:=by
   cases hb:Nat.blt i n with
   |false=>rfl|true=>have:=Dc hb;omega
  rw[hb];have Rn:i-n<m:=by omega
  have e1:i*esz=n*esz+(i-n)*esz:=by rw[← FZ];congr 1;omega
  have e2:(i-n)*esz+esz<=m*esz:=by rw[← E5];exact EA esz Rn
  simp only[cond_false];rw[e1,← H1,Ic,← ho,List.drop_left,Km K,J9 (by simp;omega)];exact N _ Rn
theorem hide_get {k j:Nat} {o:Ax} (hj:(h.set k .hid)[j]? = some o) (ho:o≠.hid):h[j]? = some o/\j≠k:=by
 rw[Db]at hj;split at hj
 ·split at hj
  ·cases hj;exact(ho rfl).elim
  ·cases hj
 ·rename_i Rw;exact⟨hj,λe=>Rw e.symm⟩
theorem HR.move (hh:HR w0 ν nV nS h lh) {p k b c e esz n:Nat} {f:be} {ty:TypeId} {az:List ak} (hp:ν p=none) (Sd:p<h'.length) (hk:ν k=some (some (b,c,e))) (Sc:bk h k)
 (ho:h'[p]? = some (.gl esz n f ty)) (hoth:∀j,j ≠ p->h'[j]? = (h.set k .hid)[j]?) (YJ:∃as0 t0,lh[b]? = some (.cells as0 t0))
 (hlen:az.length=c*esz) (hn:n<=c/\n<=9223372036854775807) (RB:∀i,i<n->nX esz (f i)=true/\bI w0 ν.z ν (f i) ((az.drop (i*esz)).take esz)) :
 HR w0 (zJ ν p (some (b,c,esz))) nV nS h' (lh.set b (.cells az ty))/\ν.sub (zJ ν p (some (b,c,esz))):=by
 have hs:=kY (x:=some (b,c,esz)) hp;have izb0:p≠k:=λe1=>by subst e1;rw[hp]at hk;cases hk
 let ⟨as0,t0,Rz⟩:=YJ
 have Sj:=(List.getElem?_eq_some_iff.1 Rz).1;have hlive:∀ j,j≠p->bk h' j->bk h j/\j≠k:=λj hj hl=>by
  rcases gx hl with ⟨_,_,g⟩|⟨_,_,_,_,g⟩
  ·rw[hoth j hj]at g
   let ⟨g1,g2⟩:=hide_get g au
   exact⟨eK g1,g2⟩
  ·rw[hoth j hj]at g
   let ⟨g1,g2⟩:=hide_get g au
   exact⟨im g1,g2⟩
 refine⟨⟨λj o hj=>?_,λj j' x x' M N h3 h4 h5=>?_,λj hj=>?_,λj x hj=>?_,λj as' ty' hj=>?_,λj x hj hx=>?_⟩,hs⟩
 ·by_cases e1:j=p
  ·subst e1;rw[ho]at hj;cases hj;exact .inr ⟨b,c,az,gy _ _ _,by simp[Sj],hlen,hn,λi hi=>⟨(RB i hi).1,FA hs _ _ (RB i hi).2⟩⟩
  ·rw [hoth j e1]at hj
   by_cases Vh:o=.hid
   ·subst Vh;trivial
   ·let ⟨g1,g2⟩:=hide_get hj Vh
    by_cases hd:o=.dead
    ·subst hd
     let ⟨k1,k2,k3⟩:=hh.blk j _ g1
     refine⟨by rw[gw,C4 e1];exact k1,k2,?_⟩;rw[Db,C4 (λe2=>by rw[← e2,Rz]at k3;cases k3)];exact k3
    ·refine d7 hs hd (λb' as' ty' q1 q2=>?_) (hh.blk j _ g1)
     rw[Db,C4]
     ·exact q1
     ·intro e2
      subst e2
      let ⟨c',e',q3⟩:=q2
      have Vj:bk h j:=by unfold bk fj;rw[DG,g1];cases o<;>first|rfl|exact(hd rfl).elim|exact(Vh rfl).elim
      exact g2 (hh.inj j k _ _ Vj Sc q3 hk rfl)
 ·rw [gw]at h3 h4
  by_cases e1:j=p<;>by_cases e2:j'=p
  ·rw[e1,e2]
  ·rw[CV e1]at h3;rw[C4 e2]at h4;cases h3
   let ⟨g1,g2⟩:=hlive j' e2 N
   exact absurd (hh.inj j' k _ _ g1 Sc h4 hk h5.symm) g2
  ·rw[C4 e1]at h3;rw[CV e2]at h4;cases h4
   let ⟨g1,g2⟩:=hlive j e1 M
   exact absurd (hh.inj j k _ _ g1 Sc h3 hk h5) g2
  ·rw[C4 e1]at h3;rw[C4 e2]at h4;exact hh.inj j j' x x' (hlive j e1 M).1 (hlive j' e2 N).1 h3 h4 h5
 ·have e1:j≠p:=λe1=>by subst e1;omega
  rw[gw,C4 e1];apply hh.dom;have:=hoth j e1;rw[Do hj]at this;have:=List.getElem?_eq_none_iff.1 this.symm;simpa using this
 ·rw[gw]at hj
  split at hj
  ·cases hj;simpa using Sj
  ·simpa using hh.rng j x hj
 ·have Sm:ν.z[j]? = some (.cells as' ty'):=hj
  rw[Db,C4 λe2=>?_]
  ·exact hh.zl j as' ty' Sm
  ·subst e2;exact nl (hh.zn k _ Sc hk) _ _ Sm
 ·rw[gw]at hx
  by_cases e1:j=p
  ·rw[CV e1]at hx;cases hx;exact hh.zn k (b,c,e) Sc hk
  ·rw[C4 e1]at hx;exact hh.zn j x (hlive j e1 hj).1 hx
theorem HR.renu (hh:HR w0 ν nV nS h lh) {p k b c e esz:Nat} {f:be} {ty:TypeId} {az:List ak} (hp:ν p=none) (Sd:p<h'.length) (hk:ν k=some (some (b,c,e))) (Sc:bk h k)
 (ho:h'[p]? = some (.gl esz 0 f ty)) (hoth:∀j,j ≠ p->h'[j]? = (h.set k .hid)[j]?) (YJ:∃as0 t0,lh[b]? = some (.cells as0 t0)) (has:az=[]) :
 HR w0 (zJ ν p (some (b,0,esz))) nV nS h' (lh.set b (.cells az ty))/\ν.sub (zJ ν p (some (b,0,esz))):=by
 subst has;have hs:=kY (x:=some (b,0,esz)) hp;have izb0:p≠k:=λe1=>by subst e1;rw[hp]at hk;cases hk
 let ⟨as0,t0,Rz⟩:=YJ
 have Sj:=(List.getElem?_eq_some_iff.1 Rz).1;have hlive:∀ j,j≠p->bk h' j->bk h j/\j≠k:=λj hj hl=>by
  rcases gx hl with ⟨_,_,g⟩|⟨_,_,_,_,g⟩
  ·rw[hoth j hj]at g
   let ⟨g1,g2⟩:=hide_get g au
   exact⟨eK g1,g2⟩
  ·rw[hoth j hj]at g
   let ⟨g1,g2⟩:=hide_get g au
   exact⟨im g1,g2⟩
 refine⟨⟨λj o hj=>?_,λj j' x x' M N h3 h4 h5=>?_,λj hj=>?_,λj x hj=>?_,λj as' ty' hj=>?_,λj x hj hx=>?_⟩,hs⟩
 ·by_cases e1:j=p
  ·subst e1;rw[ho]at hj;cases hj;exact .inr ⟨b,0,[],gy _ _ _,by simp[Sj],au,⟨D7 _,K⟩,λi hi=>by omega⟩
  ·rw [hoth j e1]at hj
   by_cases Vh:o=.hid
   ·subst Vh;trivial
   ·let ⟨g1,g2⟩:=hide_get hj Vh
    by_cases hd:o=.dead
    ·subst hd
     let ⟨k1,k2,k3⟩:=hh.blk j _ g1
     refine⟨by rw[gw,C4 e1];exact k1,k2,?_⟩;rw[Db,C4 (λe2=>by rw[← e2,Rz]at k3;cases k3)];exact k3
    ·refine d7 hs hd (λb' as' ty' q1 q2=>?_) (hh.blk j _ g1)
     rw[Db,C4]
     ·exact q1
     ·intro e2
      subst e2
      let ⟨c',e',q3⟩:=q2
      have Vj:bk h j:=by unfold bk fj;rw[DG,g1];cases o<;>first|rfl|exact(hd rfl).elim|exact(Vh rfl).elim
      exact g2 (hh.inj j k _ _ Vj Sc q3 hk rfl)
 ·rw [gw]at h3 h4
  by_cases e1:j=p<;>by_cases e2:j'=p
  ·rw[e1,e2]
  ·rw[CV e1]at h3;rw[C4 e2]at h4;cases h3
   let ⟨g1,g2⟩:=hlive j' e2 N
   exact absurd (hh.inj j' k _ _ g1 Sc h4 hk h5.symm) g2
  ·rw[C4 e1]at h3;rw[CV e2]at h4;cases h4
   let ⟨g1,g2⟩:=hlive j e1 M
   exact absurd (hh.inj j k _ _ g1 Sc h3 hk h5) g2
  ·rw[C4 e1]at h3;rw[C4 e2]at h4;exact hh.inj j j' x x' (hlive j e1 M).1 (hlive j' e2 N).1 h3 h4 h5
 ·have e1:j≠p:=λe1=>by subst e1;omega
  rw[gw,C4 e1];apply hh.dom;have:=hoth j e1;rw[Do hj]at this;have:=List.getElem?_eq_none_iff.1 this.symm;simpa using this
 ·rw[gw]at hj
  split at hj
  ·cases hj;simpa using Sj
  ·simpa using hh.rng j x hj
 ·have Sm:ν.z[j]? = some (.cells as' ty'):=hj
  rw[Db,C4 λe2=>?_]
  ·exact hh.zl j as' ty' Sm
  ·subst e2;exact nl (hh.zn k _ Sc hk) _ _ Sm
 ·rw[gw]at hx
  by_cases e1:j=p
  ·rw[CV e1]at hx;cases hx;exact hh.zn k (b,c,e) Sc hk
  ·rw[C4 e1]at hx;exact hh.zn j x (hlive j e1 hj).1 hx
theorem HR.virt (hh:HR w0 ν nV nS h lh) {p:Nat} {esz:Nat} {f:be} {ty:TypeId} (hp:ν p=none) (Sd:p < h'.length) (ho:h'[p]? = some (.gl esz 0 f ty)) (hoth:∀ j,j ≠ p->h'[j]? = h[j]?) :
 HR w0 (zJ ν p none) nV nS h' lh/\ν.sub (zJ ν p none):=by
 have hs:=kY (x:=none) hp;have hlive:∀j,j≠p->bk h' j->bk h j:=λk hk hl=>by unfold bk fj at *;rw[DG]at *;rw[hoth k hk]at hl;exact hl
 refine⟨⟨λj o hj=>?_,λj j' x x' M N h3 h4 h5=>?_,λj hj=>?_,λj x hj=>?_,hh.zl,λj x hj hx=>?_⟩,hs⟩
 ·by_cases e1:j=p
  ·subst e1;rw[ho]at hj;cases hj;exact .inl ⟨gy _ _ _,rfl⟩
  ·rw [hoth j e1]at hj
   by_cases hd:o=.dead
   ·subst hd
    let ⟨k1,k2,k3⟩:=hh.blk j _ hj
    exact⟨by rw[gw,C4 e1];exact k1,k2,k3⟩
   ·exact d7 hs hd (λ_ _ _ Pw _=>Pw) (hh.blk j _ hj)
 ·rw [gw]at h3 h4
  by_cases e1:j=p
  ·rw[CV e1]at h3;cases h3
  ·by_cases e2:j'=p
   ·rw[CV e2]at h4;cases h4
   ·rw[C4 e1]at h3;rw[C4 e2]at h4;exact hh.inj j j' x x' (hlive j e1 M) (hlive j' e2 N) h3 h4 h5
 ·have e1:j≠p:=λe1=>by subst e1;omega
  rw[gw,C4 e1];apply hh.dom;have:=hoth j e1;rw[Do hj]at this;exact List.getElem?_eq_none_iff.1 this.symm
 ·rw[gw]at hj
  split at hj
  ·cases hj
  ·exact hh.rng j x hj
 ·rw[gw]at hx
  by_cases e1:j=p
  ·rw[CV e1]at hx;cases hx
  ·rw[C4 e1]at hx;exact hh.zn j x (hlive j e1 hj) hx
theorem qH {pl:Option Nat} {o:Ax} {At:Nat->List Ax->Bh α} (hh:HR w0 ν nV nS h lh) (hs:bT LP (gr pl h o At) Q2):∃ p h',ν p=none/\p < h'.length/\h'[p]? = some o/\(∀ j,j ≠ p->h'[j]? = h[j]?)/\(pl=none ∨ (pl=some p/\h'=h.set p o/\p < h.length))/\bT LP (At p h') Q2:=by
 unfold gr at hs;split at hs
 ·rw[b6,yX]at hs
  refine⟨_,_,hh.dom h.length (D7 _),au,au,λk hk=>?_,.inl rfl,hs⟩;rw[Ei];split
  ·rfl
  ·rw[Do (by simp;omega),Do K]
 ·rename_i p
  rw[DG]at hs;split at hs
  ·rename_i hd;rw[iX]at hs;have Q7:=(List.getElem?_eq_some_iff.1 hd).1;exact⟨_,_,(hh.blk p _ hd).1,by simpa using Q7,by simp[Q7],λk hk=>by simp[hk.symm],.inr ⟨rfl,rfl,Q7⟩,hs⟩
  ·exact hs.elim
theorem ia3 {az us:List ak} {off:Nat} (hl:off+us.length<=az.length):wr az off us=az.take off++us++az.drop (off+us.length):=by
 apply F4;intro t;rw[xW _ _ _ _ hl,Ic,Ei];have M:(az.take off).length=off:=by simp;omega
 rw[M];by_cases N:t<off
 ·rw[C4 K,CV N,En,CV N]
 ·rw[C4 N,Ei]
  by_cases h3:t<off+us.length
  ·rw[CV ⟨K,h3⟩,CV K]
  ·rw[C4 K,C4 K,Fz];congr 1;omega
theorem hp0 {z:List ak} (n:Nat):(List.replicate n z).flatten.length=n*z.length:=by
 induction n with
 |zero=>simp|succ n ih=>rw[IW,K5,Ea,ih,E5];omega
theorem tp {p j:Nat} {o:Ax} (hl:bk (h.set p o) j):bk h j∨p=j:=by
 by_cases e:p=j
 ·exact .inr e
 ·left;unfold bk fj at *;rw[DG]at *;rw[Db,C4 e]at hl;exact hl
theorem Au {k j:Nat} (hl:bk (h.set k .hid) j):bk h j:=by
 rcases gx hl with ⟨_,_,g⟩|⟨_,_,_,_,g⟩
 ·exact eK (hide_get g au).1
 ·exact im (hide_get g au).1
theorem Cb {p k:Nat} {x y:Option (Nat×Nat×Nat)} (hk:zJ ν p x k=some y):ν k=some y∨(p=k/\y=x):=by
 rw[gw]at hk;split at hk
 ·rename_i e;cases hk;exact .inr ⟨e.symm,rfl⟩
 ·exact .inl hk
theorem zR.put {p b c e:Nat} {o:Ax} {ob:ar} {wn:List Nat} {pl plA:Option Nat} (Sd:pl=some p) (hplA:plA=some b) (hh:h'=h.set p o) (hl:lh'=lh.set b ob):zR ν (zJ ν p (some (b,c,e))) wn pl plA h h' lh lh':=by
 subst Sd hplA hh hl;refine⟨au,λj hj _=>by rw[Db,C4 (λe=>hj (by rw[e]))],λk x hk=>?_,au,λk hk=>?_,rfl⟩
 ·rcases Cb hk with M|⟨rfl,rfl⟩
  ·exact .inl M
  ·exact .inr ⟨rfl,λy hy=>by cases hy;exact .inl rfl⟩
 ·rcases tp hk with M|rfl
  ·exact .inl M
  ·exact .inr rfl
theorem zR.hide {k:Nat} {wn:List Nat} {pl plA:Option Nat} (hm:zR ν ν' wn pl plA (h.set k .hid) h' lh lh'):zR ν ν' wn pl plA h h' lh lh' :=
 ⟨hm.len,hm.chg,hm.nw,by simpa using hm.hlen,λj hj=>by
   rcases hm.liv j hj with M|M
   ·exact .inl (Au M)
   ·exact .inr M,hm.zz⟩
theorem u6 {n b:Nat} (hb:b≠0) (h:n*b<=140737488355328):n<=9223372036854775807:=by have:n*1<=n*b:=Nat.mul_le_mul_left n (Nat.one_le_iff_ne_zero.2 hb);omega
theorem t8 (hh:HR w0 ν nV nS h lh) {pl plA:Option Nat} (hp:KM nV nS pl plA) {ty:TypeId} {esz n m c':Nat} {f g:be} {old new zero:List ak} {At:V->List Ax->Bh α} {KA:ak->List ar->Prop}
 (hz:zero.length=esz) (ho:old.length=n*esz) (hn:new.length=m*esz) (hc:n+m<=c') (Vk:n+m<=9223372036854775807)
 (M:∀i,i<n->nX esz (f i)=true/\bI w0 ν.z ν (f i) ((old.drop (i*esz)).take esz)) (N:∀i,i<m->nX esz (g i)=true/\bI w0 ν.z ν (g i) ((new.drop (i*esz)).take esz))
 (hs:bT LP (gr pl h (.gl esz (n+m) (bb n f g) ty) λp h=>At (.gs p (n+m)) h) Q2)
 (hK:∀v h' ν' a lh',(plA≠none->∀wn,zR ν ν' wn pl plA h h' lh lh')->ν.sub ν'->HR w0 ν' nV nS h' lh'->vr w0 ν'.z ν' v a->bT LP (At v h') Q2->KA a lh') :
 place plA lh (.cells (old++new++(List.replicate (c'-(n+m)) zero).flatten) ty) λb lh'=>KA (.slice (some (.l b 0)) (n+m) c') lh':=by
 refine aAw (o:=.gl esz (n+m) (bb n f g) ty) (c:=c') (e:=esz) hh hp au (λp b lh' hb T8=>.inr ⟨b,c',_,gy _ _ _,hb,?_,⟨hc,Vk⟩,λi hi=>?_⟩) hs (λp b h' lh' SZ T8 hr S0=>hK _ _ _ _ _ (λhn wn=>?_) (kY T8) hr ?_ S0)
 ·rw[Ea,Ea,ho,hn,hp0,hz,← FZ,← FZ];congr 1;omega
 ·obtain⟨g1,g2⟩:=avW rfl ho hn M N i hi;exact⟨g1,lF (kY T8) _ _ g2⟩
 ·rcases SZ with ⟨_,e1⟩|⟨e1,e2,e3,e4,_⟩
  ·exact(hn e1).elim
  ·exact zR.put e1 e2 e3 e4
 ·simp only[vr];exact .inr ⟨b,c',esz,gy _ _ _,rfl,hc⟩
theorem Bb {p:Nat} (hp:ν p=some none):vr w0 lh ν (.gs p 0) (.slice none 0 0):=by unfold vr;exact .inl ⟨hp,rfl,rfl⟩
theorem r8 (f g:be) (i:Nat):bb 0 f g i=g i:=by
 unfold bb;have:Nat.blt i 0=false:=by
  cases hb:Nat.blt i 0 with
  |false=>rfl|true=>have:=Dc hb;omega
 rw[this];simp
theorem iu8 (az:List ak) (off:Nat):wr az off []=az:=rfl
theorem hv0 {α:Type} {l:List α} {i:Nat} {x:α} (h:l[i]? = some x):l.set i x=l:=by obtain⟨hi,rfl⟩:=List.getElem?_eq_some_iff.1 h;exact List.set_getElem_self hi
theorem ix0 (hh:HR w0 ν nV nS h lh) {pl plA:Option Nat} (hp:KM nV nS pl plA) {ty:TypeId} {esz bytes:Nat} {zero:List ak} {s x:V} {a a':ak} {At:V->List Ax->Bh α} {KA:ak->List ar->Prop}
 (R3:vr w0 ν.z ν s a) (np14:vr w0 ν.z ν x a') (hz:zero.length=esz) (hs:bT LP (NL pl h ty esz bytes s x At) Q2)
 (hK:∀v h' ν' a lh',(plA≠none->∀wn,(∀l,kF h s=some l->∀k,k∈l->k∈wn)->zR ν ν' wn pl plA h h' lh lh')->ν.sub ν'->HR w0 ν' nV nS h' lh'->vr w0 ν'.z ν' v a->bT LP (At v h') Q2->KA a lh'):ua w0 lh plA ty esz bytes zero KA a a':=by
 unfold NL at hs;split at hs
 ·exact hs.elim
 ·rename_i m g Pw hsrc
  simp only[bT]at hs;obtain⟨rfl,hs⟩:=hs;obtain⟨Pw,c2,new,rfl,hnew,U3,sb,RB⟩:=auF hh np14 hsrc;have hKp:∀ v h' ν' a lh',(plA≠none->∀ wn,zR ν ν' wn pl plA h h' lh lh')->ν.sub ν'->HR w0 ν' nV nS h' lh'->vr w0 ν'.z ν' v a->bT LP (At v h') Q2->KA a lh' :=
   λv h' ν' a lh' hc=>hK v h' ν' a lh' λSd wn _=>hc Sd wn
  have hKh:∀ k v h' ν' a lh',(plA≠none->∀ wn,zR ν ν' wn pl plA (h.set k .hid) h' lh lh')->ν.sub ν'->HR w0 ν' nV nS h' lh'->vr w0 ν'.z ν' v a->bT LP (At v h') Q2->KA a lh' :=
   λk v h' ν' a lh' hc=>hKp v h' ν' a lh' λSd wn=>(hc Sd wn).hide
  have n19:plA≠none->pl≠none:=λhn=>by
   rcases hp with ⟨e1,e2⟩|⟨p,e1,e2⟩
   ·exact(hn e2).elim
   ·rw[e1];simp
  have hvirt:∀ {h0 h':List Ax} {p:Nat} {o:Ax} {wn:List Nat},plA≠none->(pl=none∨(pl=some p/\h'=h0.set p o/\p<h0.length))->zR ν (zJ ν p none) wn pl plA h0 h' lh lh:=by
   intro h0 h' p o wn hn hx;rcases hx with e1|⟨e1,e2,_⟩
   ·exact(n19 hn e1).elim
   ·subst e2
    refine⟨rfl,λ_ _ _=>rfl,λk x hk=>?_,au,λk hk=>?_,rfl⟩
    ·rcases Cb hk with M|⟨rfl,rfl⟩
     ·exact .inl M
     ·exact .inr ⟨e1,λy hy=>by cases hy⟩
    ·rcases tp hk with M|rfl
     ·exact .inl M
     ·exact .inr e1
  have hmove:∀ {k p b c ez c2 e2:Nat} {h':List Ax} {o:Ax} {ob:ar} {wn:List Nat},plA≠none->ν k=some (some (b,c2,e2))->k∈wn->(pl=none∨(pl=some p/\h'=(h.set k .hid).set p o/\p<(h.set k .hid).length))->zR ν (zJ ν p (some (b,c,ez))) wn pl plA h h' lh (lh.set b ob):=by
   intro k p b c ez c2 e2 h' o ob wn hn hk hw hx;rcases hx with e1|⟨e1,e3,_⟩
   ·exact(n19 hn e1).elim
   ·subst e3
    refine⟨au,λj _ hj=>by rw[Db,C4 (hj k _ hw hk)],λk' x Rv=>?_,au,λk' Rv=>?_,rfl⟩
    ·rcases Cb Rv with M|⟨rfl,rfl⟩
     ·exact .inl M
     ·exact .inr ⟨e1,λy hy=>by cases hy;exact .inr ⟨k,_,hw,hk,rfl⟩⟩
    ·rcases tp Rv with M|rfl
     ·exact .inl (Au M)
     ·exact .inr e1
  split at hs
  ·-- nil
   simp only[bT,D2,E0,G6]at hs
   let ⟨⟨RI,Rz⟩,hs⟩:=hs
   simp only[vr]at R3;subst R3;have hb:bytes≠0:=λe=>by subst e;simp at Rz
   refine⟨new,hnew,λR8=>?_,λQ7=>⟨[],by simp[cellsOf],?_,.inr hb,λc' SO=>?_⟩⟩
   ·have hm:m=0:=by omega
    subst hm
    let ⟨p,h',e1,e2,e3,e4,e6,e5⟩:=qH hh hs
    let ⟨r1,r2⟩:=hh.virt e1 e2 e3 e4
    exact hKp _ _ _ _ _ (λhn wn=>hvirt hn e6) r2 r1 (Bb (gy _ _ _)) e5
   ·exact growslice_fits Q7 (by simpa using RI)
   ·have e0:bb 0 (λ_=>[]) g=g:=funext λi=>r8 _ g i;have:=t8 (n:=0) (f:=λ_=>[]) (old:=[]) hh hp (At:=At) (KA:=KA) (ty:=ty) (c':=c') (g:=g) (m:=m) hz au U3 SO (by rw[EB];exact u6 hb (by simpa using RI)) (λi hi=>by omega) RB (by rw[e0];simpa using hs) hKp;exact this
  ·-- a list
   rename_i k n;rw[DG]at hs;split at hs
   ·rename_i e n' f ty' hk
    cases hc:(Nat.beq e esz&&Nat.beq ty ty') with
    |false=>rw[hc]at hs;exact hs.elim
    |true=>
      rw[hc]at hs;simp only[D2]at hc;have:=DT hc.1;subst this;have:=DT hc.2;subst this;simp only[cond_true,bT,D2,E0,G6]at hs
      let ⟨⟨⟨Wj,RI⟩,Rz⟩,hs⟩:=hs
      have hb:bytes≠0:=λe=>by subst e;simp at Rz
      rw[iX]at hs;have Sc:=im hk;have hname:kF h (.gs k n)=some [k]:=by simp only[kF];unfold bk at Sc;rw[Sc];rfl
      simp only[vr]at R3;rcases hh.blk k _ hk with ⟨M,N⟩|⟨b,c,az,M,N,h3,hn,h5⟩
      ·rcases R3 with ⟨_,h3,h4⟩|⟨b,c,e,h3,_⟩
       ·subst h3 h4
        have e0:bb 0 f g=g:=funext λi=>r8 _ g i;refine⟨new,hnew,λR8=>?_,λQ7=>⟨[],by simp[cellsOf],?_,.inr hb,λc' SO=>?_⟩⟩
        ·have hm:m=0:=by omega
         subst hm
         let ⟨p,h',e1,e2,e3,e4,e6,e5⟩:=qH (hh.hide1 k) hs
         let ⟨r1,r2⟩:=(hh.hide1 k).virt e1 e2 e3 e4
         exact hKh k _ _ _ _ _ (λhn wn=>hvirt hn e6) r2 r1 (Bb (gy _ _ _)) e5
        ·exact growslice_fits Q7 (by simpa using RI)
        ·exact t8 (n:=0) (f:=f) (old:=[]) (hh.hide1 k) hp (At:=At) (KA:=KA) (c':=c') (g:=g) (m:=m) hz au U3 SO (by rw[EB];exact u6 hb (by simpa using RI)) (λi hi=>by omega) RB (by simpa using hs) (hKh k)
       ·rw[M]at h3;cases h3
      ·rcases R3 with ⟨h6,_⟩|⟨b',c',e',h6,rfl,hnc0⟩
       ·rw[M]at h6;cases h6
       ·rw [M]at h6
        obtain⟨rfl,rfl,rfl⟩:_=b'/\_=c'/\_=e':=by simpa using h6
        have U2:n*e<=c*e:=EA e K;have YO:(az.take (n*e)).length=n*e:=by simp;omega
        have hold:∀i,i<n->nX e (f i)=true/\bI w0 ν.z ν (f i) (((az.take (n*e)).drop (i*e)).take e):=λi hi=>by rw[oK hi];exact h5 i K
        refine⟨new,hnew,λR8=>⟨az,_,N,sb,?_,?_⟩,λQ7=>⟨az.take (n*e),?_,?_,.inr hb,λc' SO=>?_⟩⟩
        ·rw[EB,U3,← FZ,h3];exact EA e R8
        ·rw[EB]
         let ⟨p,h',e1,e2,e3,e4,e6,e5⟩:=qH (hh.hide1 k) hs
         have hfit:n*e+new.length<=az.length:=by rw[U3,← FZ,h3];exact EA e R8
         let ⟨r1,r2⟩:=hh.move (az:=wr az (n*e) new) e1 e2 M Sc e3 e4 ⟨_,_,N⟩ (by rw[qC];exact h3) ⟨R8,u6 hb RI⟩ (avW (ia3 hfit) YO U3 hold RB)
         exact hK _ _ _ _ _ (λhn wn hw=>hmove hn M (hw _ hname k G7) e6) r2 r1 (by simp only[vr];exact .inr ⟨b,c,e,gy _ _ _,rfl,R8⟩) e5
        ·simp only[cellsOf,lds,N];rw[CV K];simp
        ·exact growslice_fits Q7 RI
        ·exact t8 (hh.hide1 k) hp (At:=At) (KA:=KA) (c':=c') hz YO U3 SO (u6 hb RI) hold RB hs (hKh k)
   ·exact hs.elim
  ·-- a block of a known size
   rename_i k off n c;split at hs
   ·rename_i m' f q' tZ
    have izb3:∃ r,F8 h esz (.ss k off n c)=some (n,f,true)/\m'=n/\q'=r:=by
     refine⟨q',?_⟩;have:=tZ;unfold F8 at this;simp only[DG]at this;split at this
     ·split at this
      ·cases hd:(List.all _ V.one) with
       |false=>rw[hd]at this;cases this
       |true=>
         rw[hd]at this;simp only[cond_true]at this;split at this
         ·cases this;exact⟨tZ,rfl,rfl⟩
         ·cases this;exact⟨tZ,rfl,rfl⟩
      ·cases this
     ·cases this
    obtain⟨_,hsrc2',rfl,_⟩:=izb3
    let ⟨qs,cs,old,e1,hold,YO,izb25,helo⟩:=auF hh R3 hsrc2'
    have hvs':=R3;simp only[vr]at hvs';obtain⟨b,c',e',hν,rfl⟩:=hvs';cases e1;split at hs
    ·rename_i U1 Zt
     rw[DG]at hs;split at hs
     ·rename_i ty' hk
      cases hc:(Nat.beq ty ty'&&Nat.beq off 0) with
      |false=>rw[hc]at hs;exact hs.elim
      |true=>
        rw[hc]at hs;simp only[D2]at hc;have:=DT hc.1;subst this;have:=DT hc.2;subst this;simp only[cond_true,bT,D2,E0,G6]at hs
        let ⟨⟨RI,Rz⟩,hs⟩:=hs
        have hb:bytes≠0:=λe=>by subst e;simp at Rz
        rw[iX]at hs;have Sc:=eK hk;have hname:kF h (.ss k 0 0 0)=some [k]:=by simp only[kF];unfold bk at Sc;rw[Sc];rfl
        let ⟨b2,c2',e2',az,M,N,h3⟩:=hh.blk k _ hk
        rw[hν]at M;obtain⟨rfl,rfl,rfl⟩:_=b2/\_=c2'/\_=e2':=by simpa using M
        simp only[bI]at h3;subst h3;have e0:bb 0 f g=g:=funext λi=>r8 _ g i;refine⟨new,hnew,λR8=>⟨[],_,N,sb,?_,?_⟩,λQ7=>⟨old,hold,?_,.inr hb,λc' SO=>?_⟩⟩
        ·have hm:m=0:=by omega
         subst hm;simp at U3;subst U3;simp
        ·have hm:m=0:=by omega
         subst hm;simp at U3;subst U3
         let ⟨p,h',e1,e2,e3,e4,e6,e5⟩:=qH (hh.hide1 k) hs
         let ⟨r1,r2⟩:=hh.renu (az:=[]) e1 e2 hν Sc e3 e4 ⟨_,_,N⟩ rfl
         exact hK _ _ _ _ _ (λhn wn hw=>hmove hn hν (hw _ hname k G7) e6) r2 r1 (by unfold vr;exact .inr ⟨b,0,esz,gy _ _ _,rfl,D7 _⟩) e5
        ·exact growslice_fits Q7 (by simpa using RI)
        ·exact t8 (n:=0) (f:=f) (hh.hide1 k) hp (At:=At) (KA:=KA) (c':=c') (g:=g) (m:=m) hz YO U3 SO (by rw[EB];exact u6 hb (by simpa using RI)) (λi hi=>by omega) RB (by rw[e0];simpa using hs) (hKh k)
     ·exact hs.elim
    ·have VD:bT LP (.ob (decide (c<m'+m/\(m'+m)*bytes<=140737488355328)&&!Nat.beq bytes 0) (gr pl h (.gl esz (m'+m) (bb m' f g) ty) λp h=>At (.gs p (m'+m)) h)) Q2->ua w0 lh plA ty esz bytes zero KA (.slice (some (.l b off)) m' c) (.slice Pw m c2):=λhs=>by
      simp only[bT,D2,E0,G6]at hs
      let ⟨⟨⟨Q7,RI⟩,Rz⟩,hs⟩:=hs
      have hb:bytes≠0:=λe=>by subst e;simp at Rz
      refine⟨new,hnew,λR8=>by omega,λ_=>⟨old,hold,growslice_fits Q7 RI,.inr hb,λc' SO=>?_⟩⟩;exact t8 hh hp (At:=At) (KA:=KA) (c':=c') hz YO U3 SO (u6 hb RI) helo RB hs hKp
     split at hs
     ·simp only [bT]at hs
      cases hm:Nat.beq m 0 with
      |false=>exact VD (hs.2 hm)
      |true=>
        let ⟨U2,U6⟩:=hs.1 hm
        have iy21:m=0:=DT hm;have U2:=Dc U2;subst iy21;rw[Nat.zero_mul]at U3;have Wj:new=[]:=List.length_eq_zero_iff.1 U3;subst Wj;have Uy:=hsrc2';unfold F8 at Uy;simp only[DG]at Uy;split at Uy
        ·rename_i csV ty0 hk
         let ⟨b2,c2',e2',az,M,N,h3⟩:=hh.blk k _ hk
         rw[hν]at M;obtain⟨rfl,rfl,rfl⟩:_=b2/\_=c2'/\_=e2':=by simpa using M
         have hbd:off+m'*esz<=az.length:=by
          have ho:=hold;simp only[cellsOf,lds,N]at ho;split at ho
          ·assumption
          ·cases ho
         refine⟨[],hnew,λ_=>⟨az,_,N,sb,by simpa using hbd,?_⟩,λQ7=>by omega⟩;rw[iu8,show lh.set b (.cells az ty0)=lh from hv0 N];exact hK _ _ ν _ _ (λhn wn hw=>zR.refl ..) (Nu.sub_refl _) hh R3 U6
        ·cases Uy
     ·exact VD hs
   ·exact hs.elim
  ·exact hs.elim
end
section
variable {w0:World} {ν ν':Nu} {nV nS QG:Nat} {h h':List Ax} {lh lh':List ar} {α:Type} {LP:fD} {Q2:α->Prop} {e:bS} {sl:List ak} {ctx:Bool} {Q1:FuncId->ca}
theorem ais (c:Bool):∀ {x y z:V} {a b:ak},Ga c x y=some z->(c=true->vr w0 lh ν x a)->(c=false->vr w0 lh ν y b)->vr w0 lh ν z (if c then a else b):=by
 have key:∀ (x:V),(∀ (y z:V) (a b:ak),Ga c x y=some z->(c=true->vr w0 lh ν x a)->(c=false->vr w0 lh ν y b)->vr w0 lh ν z (if c then a else b)):=by
  intro x
  refine V.rec (motive_1:=λx=>∀ (y z:V) (a b:ak),Ga c x y=some z->(c=true->vr w0 lh ν x a)->(c=false->vr w0 lh ν y b)->vr w0 lh ν z (if c then a else b))
   (motive_2:=λxs=>∀(ys zs:List V) (az bs:List ak),Lj c xs ys=some zs->(c=true->bI w0 lh ν xs az)->(c=false->bI w0 lh ν ys bs)->bI w0 lh ν zs (if c then az else bs))
   ?_ ?_ ?_ ?_ ?_ ?_ ?_ ?_ ?_ ?_ ?_ ?_ ?_ ?_ ?_ ?_ ?_ ?_ ?_ ?_ ?_ ?_ x
  case refine_1=>
   intro k n y z a b hm M N;cases y<;>simp[Ga]at hm<;>try cases hm
   split at hm
   ·rename_i he _;subst he;cases hm
    simp[vr]at *
    cases c
    ·rw[N rfl];rfl
    ·rw[M rfl];rfl
   ·cases hm
  case refine_2=>
   intro p y z a b hm M N;simp[Ga]at hm;split at hm
   ·rename_i Pw hq
    cases hm;cases c
    ·have N:=N rfl;cases y<;>simp[pn]at hq<;>cases hq<;>(simp[vr]at N ⊢;subst N;rfl)
    ·have M:=M rfl;simp[vr]at M ⊢;subst M;rfl
   ·cases hm
  case refine_3=>
   intro p y z a b hm M N;simp[Ga]at hm;split at hm
   ·rename_i Pw hq
    cases hm;cases c
    ·have N:=N rfl;cases y<;>simp[pn]at hq<;>cases hq<;>(simp[vr]at N ⊢;subst N;rfl)
    ·have M:=M rfl;simp[vr]at M ⊢;subst M;rfl
   ·cases hm
  case refine_4=>
   intro s y z a b hm M N;cases y<;>simp[Ga]at hm<;>try cases hm
   simp[vr]at *
   cases c
   ·rw[N rfl];rfl
   ·rw[M rfl];rfl
  case refine_5=>
   intro cs ih y z a b hm M N;cases y<;>simp[Ga]at hm<;>try cases hm
   split at hm
   ·rename_i zs hz
    cases hm;simp[vr]at *
    cases c
    ·obtain⟨az,rfl,g⟩:=N rfl;have:=ih _ _ [] az hz (λh=>by cases h) (λ_=>g);exact⟨az,rfl,by simpa using this⟩
    ·obtain⟨az,rfl,g⟩:=M rfl;have:=ih _ _ az [] hz (λ_=>g) (λh=>by cases h);exact⟨az,rfl,by simpa using this⟩
   ·cases hm
  case refine_21=>
   intro ys zs az bs hm M N;cases ys<;>simp[Lj]at hm<;>cases hm;simp[bI]at *
   cases c
   ·simpa using N rfl
   ·simpa using M rfl
  case refine_22=>
   intro x xs ihx ihxs ys zs az bs hm M N;cases ys with
   |nil=>simp[Lj]at hm
   |cons y ys=>
     simp[Lj]at hm;split at hm
     ·rename_i z hz
      split at hm
      ·rename_i zs' ae
       cases hm;cases c
       ·have N:=N rfl;simp[bI]at N ⊢;obtain⟨b,bs,rfl,g1,g2⟩:=N;have i1:=ihx y z (.any) b hz (λh=>by cases h) (λ_=>g1);have i2:=ihxs ys zs' [] bs ae (λh=>by cases h) (λ_=>g2);exact⟨b,bs,rfl,by simpa using i1,by simpa using i2⟩
       ·have M:=M rfl;simp[bI]at M ⊢;obtain⟨b,bs,rfl,g1,g2⟩:=M;have i1:=ihx y z b (.any) hz (λ_=>g1) (λh=>by cases h);have i2:=ihxs ys zs' bs [] ae (λ_=>g2) (λh=>by cases h);exact⟨b,bs,rfl,by simpa using i1,by simpa using i2⟩
      ·cases hm
     ·cases hm
  all_goals (intros;rename_i hm _ _;simp[Ga]at hm)
 intro x y z a b h0 M N;exact key x y z a b h0 M N
theorem adJ:∀ {xs ys:List V} {az bs:List ak} {b:Bool},Fw xs ys=some b->bI w0 lh ν xs az->bI w0 lh ν ys bs->ck az bs=some b
 |[],[],az,bs,b,hm,M,N=>by simp[bI]at M N;subst M N;simp[Fw,ck]at *;exact hm
 |[],y::ys,az,bs,b,hm,M,N=>by cases y<;>simp[Fw]at hm
 |x::xs,[],az,bs,b,hm,M,N=>by cases x<;>simp[Fw]at hm
 |x::xs,y::ys,az,bs,b,hm,M,N=>by
   cases x<;>cases y<;>simp[Fw]at hm<;>try cases hm
   split at hm
   ·rename_i he _
    subst he;split at hm
    ·rename_i r hr;cases hm;simp[bI,vr]at M N;obtain⟨_,az,rfl,rfl,M⟩:=M;obtain⟨_,bs,rfl,rfl,N⟩:=N;simp[ck,EN,adJ hr M N,E2]
    ·cases hm
   ·cases hm
theorem yaT {isMax:Bool} {KA:ak->Prop}:∀ {xs:List V} {x z:V} {az:List ak} {a:ak},Jj isMax x xs=some z->vr w0 lh ν x a->bI w0 lh ν xs az->(∀ r,vr w0 lh ν z r->KA r)->mm2 isMax a az KA
 |[],x,z,az,a,hm,M,N,hK=>by simp[bI]at N;subst N;cases x<;>(simp[Jj]at hm;cases hm;unfold mm2;exact hK a M)
 |y::xs,x,z,az,a,hm,M,N,hK=>by
   cases x<;>try (simp[Jj]at hm;done)
   cases y<;>simp[Jj]at hm<;>try cases hm
   split at hm
   ·rename_i he _;subst he;simp[bI,vr]at M N;obtain⟨_,az,rfl,rfl,N⟩:=N;subst M;unfold mm2;exact⟨rfl,yaT hm (by simp[vr]) N hK⟩
   ·cases hm
theorem ny1 {op:BinOp} {k:IntKind} {x y:Int} {At:V->Bh α} {KA:ak->Prop} (hc:ctx=true) (hs:bT LP (R6 ctx op k x y At) Q2) (hK:∀ v a,vr w0 ν.z ν v a->bT LP (At v) Q2->KA a):uh op k x y KA:=by
 cases op<;>simp[R6]at hs<;>simp[uh]
 case quo=>let ⟨M,N⟩:=EU hc hs;exact⟨M,hK _ _ (by simp[vr]) N⟩
 case rem=>let ⟨M,N⟩:=EU hc hs;exact⟨M,hK _ _ (by simp[vr]) N⟩
 case shl=>let ⟨M,N⟩:=EU hc hs;exact⟨M,hK _ _ (by simp[vr]) N⟩
 case shr=>let ⟨M,N⟩:=EU hc hs;exact⟨M,hK _ _ (by simp[vr]) N⟩
 all_goals first|exact hs.elim|exact hK _ _ (by simp[vr]) hs
theorem hpk {op:BinOp} {x y:V} {a b:ak} {At:V->Bh α} {KA:ak->Prop} (hc:ctx=true) (M:vr w0 ν.z ν x a) (N:vr w0 ν.z ν y b) (hs:bT LP (Di ctx op x y At) Q2) (hK:∀ v a,vr w0 ν.z ν v a->bT LP (At v) Q2->KA a):Q6 op a b KA:=by
 unfold Di at hs;split at hs
 ·simp [vr]at M N;subst M N
  split at hs
  ·rename_i he _;subst he;exact⟨rfl,ny1 hc hs hK⟩
  ·exact hs.elim
 ·simp[vr]at M N;subst M N
  simp[Q6];split at hs
  ·exact hK _ _ (by simp[vr]) hs
  ·exact hK _ _ (by simp[vr]) hs
  ·let ⟨g1,g2⟩:=EU hc hs;exact⟨g1,hK _ _ (by simp[vr]) g2⟩
  ·exact hs.elim
 ·exact hs.elim
theorem pE {v:V} {a:ak} {b:Bool} (hv:vr w0 lh ν v a) (hb:pn v=some b):a=.bool b:=by cases v<;>simp[pn]at hb<;>cases hb<;>(simp[vr]at hv;exact hv)
theorem hjp {cs ds:List V} {off:Nat} {a:ak} (hv:vr w0 ν.z ν (.pd cs) a) (hd:tE off cs=some ds):∃p,a=.ptr (some p)/\vr w0 ν.z ν (.pd ds) (.ptr (some (p.add off))):=by simp only[vr]at hv;obtain⟨p,az,rfl,M,N,h3⟩:=hv;obtain⟨g1,rfl⟩:=xp hd;refine⟨p,rfl,?_⟩;simp only[vr];have:=ahU (i:=off) (m:=cs.length-off) (lh:=ν.z) N K (nh _);refine⟨_,_,rfl,by cases p<;>exact M,by rw[JP];exact this,?_,List.all_eq_true.2 λx hx=>List.all_eq_true.1 h3.2 x (List.mem_of_mem_drop hx)⟩;have hl:=tk N;rw[IZ (by simp;omega)];exact gY off h3.1
theorem kc (y d:Nat) (At:Nat->Prop):bnd none y d At=At d:=rfl
theorem A1 {xs:List V} {v:V} (hs:XP h xs v=some h'):∃ k o,h'=h.set k o/\bk h k:=by
 unfold XP at hs;split at hs
 ·rename_i k off
  rw[DG]at hs;split at hs
  ·rename_i cs ty hk
   split at hs
   ·cases hs;exact⟨k,_,iX _ _ _,eK hk⟩
   ·cases hs
  ·cases hs
 ·rename_i k i j
  rw[DG]at hs;split at hs
  ·rename_i e n f ty hk
   cases hb:Nat.ble (j+cg xs) e with
   |true=>rw[hb]at hs;cases hs;exact⟨k,_,iX _ _ _,im hk⟩|false=>rw[hb]at hs;cases hs
  ·cases hs
 ·cases hs
theorem yah {xs:List V} {v:V} (hs:XP h xs v=some h'):h'.length=h.length:=by obtain⟨k,o,rfl,_⟩:=A1 hs;simp
theorem i09 {xs:List V} {v:V} {j:Nat} (hs:XP h xs v=some h') (hj:bk h' j):bk h j:=by
 obtain⟨k,o,rfl,hk⟩:=A1 hs;rcases tp hj with M|rfl
 ·exact M
 ·exact hk
theorem ha':∀ (xs ys cs:List ak) (o:Nat),wr cs o (xs++ys)=wr (wr cs o xs) (o+xs.length) ys
 |[],ys,cs,o=>by simp[wr]
 |x::xs,ys,cs,o=>by simp[JM,wr,EO];rw[ha' xs ys,show o+1+xs.length=o+(xs.length+1) by omega]
theorem hq₂ (n:Nat) (z:List ak):(List.replicate (n+1) z).flatten=(List.replicate n z).flatten++z:=by rw[List.replicate_succ',List.flatten_append];simp
theorem ac2 {α:Type}:∀ (l z:List α),l.length=z.length->sh l 0 z=some z
 |[],[],_=>rfl|[],_::_,h=>by cases h
 |_::_,[],h=>by cases h
 |x::l,y::z,h=>by simp[sh];rw[ac2 l z (by simpa using h)]
theorem aeM (hh:HR w0 ν nV nS h lh) {k e n' off:Nat} {f:be} {ty:TypeId} {z:List V} {za:List ak} (hk:h[k]? = some (.gl e n' f ty)) {b c:Nat} (hν:ν k=some (some (b,c,e))) (hz:bI w0 ν.z ν z za) (ho:nX e z=true) :
 ∀n,off+n<=n'->∃cs,lh[b]? = some (.cells cs ty)/\off*e+n*e<=cs.length/\HR w0 ν nV nS (h.set k (.gl e n' (λi=>cond (Nat.ble off i&&Nat.blt i (off+n)) z (f i)) ty)) (lh.set b (.cells (wr cs (off*e) (List.replicate n za).flatten) ty)):=by
 have hb:=hh.blk k _ hk;have si:=ho;simp only[nX,D2]at si;have XH:z.length=e:=by have:=DT si.1;rwa [b6]at this
 have aa:za.length=e:=by rw[bY hz,XH]
 rcases hb with ⟨M,_⟩|⟨b',c',az,M,N,h3,h4,h5⟩
 ·rw[hν]at M;cases M
 rw[hν]at M;obtain⟨rfl,rfl⟩:b=b'/\c=c':=by simpa using M
 intro n;induction n with
 |zero=>
   intro hn;refine⟨az,N,by rw[h3,Nat.zero_mul,GE];exact EA e K,?_⟩;have e1:(λi=>cond (Nat.ble off i&&Nat.blt i (off+0)) z (f i))=f:=by
    funext i;have:(Nat.ble off i&&Nat.blt i (off+0))=false:=by
     cases h6:Nat.ble off i with
     |false=>rfl
     |true=>
       have h7:=Dc h6;cases hb:Nat.blt i (off+0) with
       |false=>rfl|true=>have:=Dc hb;omega
    rw[this];rfl
   rw[e1];have e2:h.set k (.gl e n' f ty)=h:=by
    apply F4;intro j;rw[Db];split
    ·rename_i e;subst e;let ⟨q1,q2⟩:=List.getElem?_eq_some_iff.1 hk;simp[q1,q2]
    ·rfl
   have e3:lh.set b (.cells (wr az (off*e) (List.replicate 0 za).flatten) ty)=lh:=by
    apply F4;intro j;rw[Db];split
    ·rename_i e;subst e;let ⟨q1,q2⟩:=List.getElem?_eq_some_iff.1 N;simp[q1,q2,wr]
    ·rfl
   rw[e2,e3];exact hh
 |succ n ih=>
   intro hn
   let ⟨cs,g1,g2,g3⟩:=ih K
   have Wg:k<h.length:=(List.getElem?_eq_some_iff.1 hk).1;have Sj:b<lh.length:=(List.getElem?_eq_some_iff.1 N).1;have R0:XP (h.set k (.gl e n' (λi=>cond (Nat.ble off i&&Nat.blt i (off+n)) z (f i)) ty)) z (.pe k (off+n) 0)=some (h.set k (.gl e n' (λi=>cond (Nat.ble off i&&Nat.blt i (off+(n+1))) z (f i)) ty)):=by
    have Zw:(cond (Nat.ble off (off+n)&&Nat.blt (off+n) (off+n)) z (f (off+n))).length=z.length:=by
     have hf:=(h5 (off+n) K).1;simp only[nX,D2]at hf;have:=DT hf.1;rw[b6]at this;cases (Nat.ble off (off+n)&&Nat.blt (off+n) (off+n)) with
     |true=>rfl|false=>show(f (off+n)).length=_;rw[this,XH]
    simp only[XP];rw[DG,Db,CV rfl,CV Wg];dsimp only
    have hw:=azv (Zw.trans XH) 0 z;rw[ac2 _ _ Zw]at hw;unfold KV at hw;cases hble:Nat.ble (0+cg z) e with
    |false=>rw[hble]at hw;cases hw|true=>
    rw[hble]at hw;simp only[cond_true,DJ]at hw ⊢;rw[iX,List.set_set];congr 3;funext i;unfold WP;rw[hw];cases hi:Nat.beq i (off+n) with
    |true=>have:=DT hi;subst this;have M:Nat.ble off (off+n)=true:=Ey K;have N:Nat.blt (off+n) (off+(n+1))=true:=Ey K;rw[M,N];rfl
    |false=>
      have Rw:i≠off+n:=λe=>by subst e;rw[Nat.beq_refl]at hi;cases hi
      have:Nat.blt i (off+(n+1))=Nat.blt i (off+n):=by
       cases hb:Nat.blt i (off+n) with
       |true=>have:=Dc hb;exact Ey K
       |false=>
         cases Rq:Nat.blt i (off+(n+1)) with
         |false=>rfl
         |true=>have h7:=Dc Rq;have:Nat.blt i (off+n)=true:=Ey K;rw[this]at hb;cases hb
      rw[this];rfl
   rw[N]at g1;cases g1
   let ⟨b2,o2,cs2,DC,k2,c2,e2',e1,e2,e3,e4,e5,e6⟩:=dwH g3 (v:=.pe k (off+n) 0) (a:=.ptr (some (.l b ((off+n)*e+0)))) (by simp only[vr];exact⟨b,c,e,hν,rfl⟩) hz si.2 R0 (λk1 i1 j1 he e3 n3 f3 ty3 h6=>by cases he;rw[Db,CV rfl,CV Wg]at h6;cases h6;omega)
   obtain⟨rfl,rfl⟩:b=b2/\(off+n)*e+0=o2:=by simpa using e1
   rw[Db,CV rfl,CV Sj]at e2;cases e2;refine⟨az,N,by rw[qC]at e3;rw[E5];rw[FZ]at e3;omega,?_⟩;rw[hq₂,ha'];have Zw:(List.replicate n za).flatten.length=n*e:=by simp[aa]
   rw[Zw];rw[List.set_set]at e4;rw[GE,FZ]at e4;exact e4
theorem Cf {cf:CF α} {md:Bool} {pl plA:Option Nat} {op:l7} {At:V->List Ax->Bh α} {KA:ak->List ar->Prop} {wn:List Nat} (Qb:gU w0 ν QG e sl) (hh:HR w0 ν nV nS h lh) (hc:ctx=true) (Rh:uC w0 Q1 LP md cf)
 (hp:KM nV nS pl plA) (U4:md=true->∃l,KI h e pl op=some l/\∀k,k∈l->k∈wn) (hs:bT LP (CK cf ctx pl op e h At) Q2)
 (hK:∀v h' ν' a lh',(md=true->zR ν ν' wn pl plA h h' lh lh')->(mC op=true->ν'=ν/\h'=h/\lh'=lh)->ν.sub ν'->HR w0 ν' nV nS h' lh'->vr w0 ν'.z ν' v a->bT LP (At v h') Q2->KA a lh'):dK w0 Q1 sl lh plA KA op:=by
 have hK0:∀v a,vr w0 ν.z ν v a->bT LP (At v h) Q2->KA a lh:=λv a hv hs=>hK v h ν a lh (λ_=>zR.refl _ _ _ _ _ _) (λ_=>⟨rfl,rfl,rfl⟩) (Nu.sub_refl ν) hh hv hs
 have hplace:∀ {o:Ax} {az:List ak} {ty:TypeId} {KP:Nat->List Ax->Bh α} {F:Nat->ak} {c ez:Nat},(md=true->∃ p,pl=some p)->mC op=false->o ≠ .dead->(∀ p b lh',lh'[b]? = some (.cells az ty)->ν p=none->Fx w0 (zJ ν p (some (b,c,ez))) nV nS lh' p o) ->
  bT LP (gr pl h o KP) Q2->(∀p b h' lh',ν p=none->HR w0 (zJ ν p (some (b,c,ez))) nV nS h' lh'->bT LP (KP p h') Q2->∃v,vr w0 ν.z (zJ ν p (some (b,c,ez))) v (F b)/\bT LP (At v h') Q2)->place plA lh (.cells az ty) λb lh'=>KA (F b) lh':=by
  intro o az ty KP F c ez Sd R0 YK hb hs hk
  refine aAw hh hp YK hb hs λp b h' lh' SZ T8 hr S0=>?_
  let ⟨v,hv,no10⟩:=hk p b h' lh' T8 hr S0
  refine hK v h' _ _ lh' (λhm=>?_) (λe=>by rw[R0]at e;cases e) (kY T8) hr hv no10
  let ⟨p',hp''⟩:=Sd hm
  rcases SZ with ⟨g,_⟩|⟨e1,e2,e3,e4,_⟩
  ·rw[hp'']at g;cases g
  ·exact zR.put e1 e2 e3 e4
 have hplN:∀ {z:List Nat},KI h e pl op=some z->(match pl with|some p=>some [p]|none=>none:Option (List Nat))=some z->∃ p,pl=some p:=by
  intro z _ hz
  cases pl with
  |none=>cases hz
  |some p=>exact⟨p,rfl⟩
 cases op<;>simp only[CK]at hs<;>simp only[dK]
 case mov x=>
  let ⟨u,M,N⟩:=bR Qb hc hs
  exact hK0 _ _ M N
 case pick c a b=>
  let ⟨u,M,N⟩:=bR Qb hc hs
  split at N
  ·simp only[vr]at M;rw[M]
   let ⟨v,g1,g2⟩:=bR Qb hc N
   exact⟨λ_=>hK0 _ _ g1 g2,λe=>by cases e⟩
  ·simp only[vr]at M;rw[M]
   let ⟨v,g1,g2⟩:=bR Qb hc N
   exact⟨(λe=>by cases e),λ_=>hK0 _ _ g1 g2⟩
  ·rename_i c
   simp only[vr]at M;rw[M]
   subst hc
   have ha:∀ {x:V} {KK:V->Bh α} {a:gk} {cc:Bool},bT LP (jo (true&&cc) (dT e a) KK) Q2->∃ u,(cc=true->vr w0 ν.z ν u (arg sl a))/\bT LP (KK u) Q2:=by
    intro x KK a cc hs
    have hv:=Qb.arg a
    unfold jo at hs
    split at hs
    ·rename_i b u hb
     rw[hb]at hv
     simp only[bT]at hs
     simp only[vr]at hv
     exact⟨u,λe=>hv.1 (by subst e;simpa using hs.1),hs.2⟩
    ·exact⟨_,λ_=>hv,hs⟩
   let ⟨x,g1,h3⟩:=ha (x:=.any) N
   let ⟨y,g2,h4⟩:=ha (x:=.any) h3
   split at h4
   ·rename_i z hz
    have hm:=ais (a:=arg sl a) (b:=arg sl b) c hz g1 (λe=>g2 (by simp[e]))
    refine⟨λe=>?_,λe=>?_⟩
    ·subst e;exact hK0 _ _ (by simpa using hm) h4
    ·subst e;exact hK0 _ _ (by simpa using hm) h4
   ·simp only[bT]at h4
    exact⟨λe=>hK0 _ _ (g1 e) (h4.1 e),λe=>hK0 _ _ (g2 (by simp[e])) (h4.2 e)⟩
  ·simp only[bT]at N
   exact absurd (N.1 hc) aR
  ·exact N.elim
 case new ty z=>
  refine hplace (o:=.cells (z.map IG) ty) (c:=0) (ez:=0) (F:=λb=>.ptr (some (.l b 0))) (λhm=>?_) rfl au (λp b lh' hb T8=>⟨b,0,0,z,gy _ _ _,hb,qF z⟩) hs (λp b h' lh' T8 hr S0=>⟨_,?_,S0⟩)
  ·let ⟨l,g,_⟩:=U4 hm;exact hplN g g
  ·simp only[vr];exact⟨b,0,0,gy _ _ _,rfl⟩
 case box ty x=>
  let ⟨u,M,N⟩:=bR Qb hc hs
  cases hf:u.flat with
  |false=>rw[hf]at N;exact N.elim
  |true=>
    rw[hf]at N
    simp only[cond_true]at N
    let ⟨g1,g2⟩:=xU M hf
    refine⟨g1,hplace (o:=.cells u.cells ty) (c:=0) (ez:=0) (F:=λb=>.ptr (some (.l b 0))) (λhm=>?_) rfl au (λp b lh' hb T8=>⟨b,0,0,_,gy _ _ _,hb,lF (kY T8) _ _ g2⟩) N (λp b h' lh' T8 hr S0=>⟨_,?_,S0⟩)⟩
    ·let ⟨l,g,_⟩:=U4 hm;exact hplN g g
    ·simp only[vr];exact⟨b,0,0,gy _ _ _,rfl⟩
 case agg z ps=>
  exact vc Qb hc (qF z) hs λcs az g1 g2=>hK0 _ _ (by simp only[vr];exact⟨az,rfl,g1⟩) g2
 case bsl ty n z ps=>
  refine vc Qb hc (qF z) hs λcs az g1 g2=>?_
  refine hplace (o:=.cells cs ty) (c:=0) (ez:=0) (F:=λb=>.slice (some (.l b 0)) n n) (λhm=>?_) rfl au (λp b lh' hb T8=>⟨b,0,0,az,gy _ _ _,hb,lF (kY T8) _ _ g1⟩) g2 (λp b h' lh' T8 hr S0=>⟨_,?_,S0⟩)
  ·let ⟨l,g,_⟩:=U4 hm;exact hplN g g
  ·simp only[vr];exact⟨b,0,0,gy _ _ _,rfl⟩
 case ld a=>
  let ⟨u,M,N⟩:=bR Qb hc hs
  let ⟨Ux,h3⟩:=w9 hc N
  split at h3
  ·rename_i v hv
   let ⟨p,x,g1,g2,g3⟩:=Gp hh M hv Ux
   rw[g1]
   exact⟨x,g2,hK0 _ _ g3 h3⟩
  ·exact h3.elim
 case lds n a=>
  let ⟨u,M,N⟩:=bR Qb hc hs
  let ⟨Ux,h3⟩:=w9 hc N
  split at h3
  ·rename_i v hv
   let ⟨p,x,g1,g2,g3⟩:=awD hh M hv Ux
   rw[g1]
   exact⟨x,g2,hK0 _ _ (by simp only[vr];exact⟨x,rfl,g3⟩) h3⟩
  ·exact h3.elim
 case st n a x=>
  let ⟨u,M,N,YL⟩:=aav hc (Qb.arg a) hs
  let ⟨v,h3,h4⟩:=bR Qb hc N
  let ⟨Ux,h5⟩:=w9 hc h4
  cases hf:(v.flat&&Nat.beq (cg v.cells) n) with
  |false=>rw[hf]at h5;exact h5.elim
  |true=>
    rw[hf]at h5
    simp only[cond_true]at h5
    simp only[D2]at hf
    let ⟨g1,g2⟩:=xU h3 hf.1
    have g3:=DT hf.2
    rw[b6]at g3
    split at h5
    ·rename_i h' R0
     let ⟨b,off,cs,ty,k,c,ez,e1,e2,e3,e4,e5,e6⟩:=dwH hh M g2 (hnl hf.1) R0 Ux
     rw[e1]
     have hl:=bY g2
     refine⟨cs,ty,e2,g1,K,K,hK _ _ ν _ _ (λhm=>?_) (λe=>by cases e) (Nu.sub_refl ν) e4 (by simp only[vr,bI];exact⟨[],rfl,rfl⟩) h5⟩
     let ⟨l,q1,q2⟩:=U4 hm
     simp only[KI]at q1
     have:=YL _ _ q1
     subst this
     rw[e5]at q1;cases q1
     refine⟨au,λj _ hj=>by rw[Db,C4 (hj k _ (q2 k G7) e6)],λ_ _ h=>.inl h,?_,?_,rfl⟩
     ·exact yah R0
     ·exact λj hj=>.inl (i09 R0 hj)
    ·exact h5.elim
 case nz x=>
  let ⟨u,M,N⟩:=bR Qb hc hs
  split at N
  ·simp only[vr]at M;let ⟨b,c,ez,g1,g2⟩:=M;rw[g2];exact hK0 _ _ (by simp only[vr];exact⟨b,c,ez,g1,rfl⟩) N
  ·simp only[vr]at M;let ⟨b,c,ez,g1,g2⟩:=M;rw[g2];exact hK0 _ _ (by simp only[vr];exact⟨b,c,ez,g1,rfl⟩) N
  ·simp only[vr]at M;let ⟨p,az,g1,g2,g3,g4⟩:=M;rw[g1];exact hK0 _ _ (by simp only[vr];exact⟨p,az,rfl,g2,g3,g4⟩) N
  ·simp only[vr]at M;let ⟨us,vs,g1,g2,g3⟩:=M;rw[g1];exact hK0 _ _ (by simp only[vr];exact⟨us,vs,rfl,g2,g3⟩) N
  ·exact N.elim
 case bin op x y=>
  let ⟨u,M,N⟩:=bR Qb hc hs
  let ⟨v,h3,h4⟩:=bR Qb hc N
  exact hpk hc M h3 h4 λv a hv hs=>hK0 v a hv hs
 case eqa neg n x y=>
  let ⟨u,M,N⟩:=bR Qb hc hs
  let ⟨v,h3,h4⟩:=bR Qb hc N
  split at h4
  ·rename_i xs ys
   simp only[vr]at M h3
   let ⟨az,g1,g2⟩:=M
   let ⟨bs,g3,g4⟩:=h3
   rw[g1,g3]
   split at h4
   ·rename_i b hb
    cases hn:Nat.beq (cg xs) n with
    |false=>rw[hn]at h4;exact h4.elim
    |true=>
      rw[hn]at h4
      have:=DT hn
      rw[b6]at this
      exact⟨by rw[bY g2];exact this,b,adJ hb g2 g4,hK0 _ _ (by simp only[vr]) h4⟩
   ·exact h4.elim
  ·exact h4.elim
 case eqb neg x y=>
  let ⟨u,M,N⟩:=bR Qb hc hs
  let ⟨v,h3,h4⟩:=bR Qb hc N
  split at h4
  ·rename_i a b ha hb
   rw[pE M ha,pE h3 hb]
   exact hK0 _ _ (by simp only[vr]) h4
  ·exact h4.elim
 case un op x=>
  let ⟨u,M,N⟩:=bR Qb hc hs
  split at N
  ·simp only[vr]at M;rw[M];exact hK0 _ _ (by simp only[vr]) N
  ·simp only[vr]at M;rw[M];exact hK0 _ _ (by simp only[vr]) N
  ·simp only[vr]at M;rw[M];exact hK0 _ _ (by simp only[vr]) N
  ·exact N.elim
 case conv k x=>
  let ⟨u,M,N⟩:=bR Qb hc hs
  split at N
  ·simp only[vr]at M;rw[M];exact hK0 _ _ (by simp only[vr]) N
  ·exact N.elim
 case mkf f xs ys=>
  split at hs
  ·let ⟨us,g1,g2⟩:=mD Qb hc hs
   let ⟨vs,g3,g4⟩:=mD Qb hc g2
   exact hK0 _ _ (by simp only[vr];exact⟨_,_,rfl,g1,g3⟩) g4
  ·exact hs.elim
 case fa off x=>
  let ⟨u,M,N⟩:=bR Qb hc hs
  split at N
  ·simp only[vr]at M;let ⟨b,c,ez,g1,g2⟩:=M;rw[g2];exact hK0 _ _ (by simp only[vr];exact⟨b,c,ez,g1,rfl⟩) N
  ·simp only[vr]at M;let ⟨b,c,ez,g1,g2⟩:=M;rw[g2];exact hK0 _ _ (by simp only[vr];exact⟨b,c,ez,g1,by simp[jh.add,I5]⟩) N
  ·split at N
   ·rename_i ds hd
    let ⟨p,g1,g2⟩:=hjp M hd
    rw[g1];exact hK0 _ _ g2 N
   ·exact N.elim
  ·exact N.elim
 case fld off n x=>
  let ⟨u,M,N⟩:=bR Qb hc hs
  split at N
  ·simp only [vr]at M;let ⟨az,g1,g2⟩:=M;rw[g1]
   split at N
   ·rename_i n
    split at N
    ·rename_i ds hd
     obtain⟨q1,rfl⟩:=tW hd
     exact hK0 _ _ (by simp only[vr];exact⟨_,rfl,ja n (gY off g2)⟩) N
    ·exact N.elim
   ·split at N
    ·rename_i v hv
     rw[DG]at hv
     let ⟨a,q1,q2⟩:=oO g2 hv
     exact⟨a,q1,hK0 _ _ q2 N⟩
    ·exact N.elim
  ·exact N.elim
 case iaA n esz x ix=>
  let ⟨u,M,N⟩:=bR Qb hc hs
  let ⟨v,h3,h4⟩:=bR Qb hc N
  split at h4
  ·simp only[vr]at M h3;let ⟨b,c,ez,g1,g2⟩:=M;rw[g2,h3]
   let ⟨⟨q1,q2⟩,q3⟩:=EU hc h4
   exact⟨q1,q2,hK0 _ _ (by simp only[vr];exact⟨b,c,ez,g1,rfl⟩) q3⟩
  ·simp only[vr]at M h3;let ⟨b,c,ez,g1,g2⟩:=M;rw[g2,h3]
   let ⟨⟨q1,q2⟩,q3⟩:=EU hc h4
   exact⟨q1,q2,hK0 _ _ (by simp only[vr];exact⟨b,c,ez,g1,by simp[jh.add,I5]⟩) q3⟩
  ·simp only [vr]at h3
   split at h4
   ·rename_i ds hd
    let ⟨p,g1,g2⟩:=hjp M hd
    rw[g1,h3]
    let ⟨⟨q1,q2⟩,q3⟩:=EU hc h4
    exact⟨q1,q2,hK0 _ _ g2 q3⟩
   ·exact h4.elim
  ·exact h4.elim
 case iaS esz x ix=>
  let ⟨u,M,N⟩:=bR Qb hc hs
  let ⟨v,h3,h4⟩:=bR Qb hc N
  split at h4
  ·rename_i n f _ i
   simp only[vr]at M h3
   let ⟨p,c,ez,g1,g2,g3,g4,g5⟩:=M
   rw[g1,h3]
   cases hn:Nat.beq (cg (f i.toNat)) esz with
   |false=>rw[hn]at h4;exact h4.elim
   |true=>
     rw[hn]at h4
     have hl:=DT hn
     rw[b6]at hl
     let ⟨⟨q1,q2⟩,q3⟩:=EU hc h4
     let ⟨Pw,az,k1,k2,k3⟩:=g5 i.toNat K
     subst k1
     have Y5:ez=esz:=by have:=tk k2;have:=bY k3.1;omega
     subst Y5
     refine⟨q1,q2,Pw,rfl,hK0 _ _ ?_ q3⟩
     simp only[vr]
     exact⟨_,az,rfl,is0 k2,by rw[hl];exact k2,k3⟩
  ·simp only[vr]at M h3;let ⟨b,c,ez,g1,g2⟩:=M;rw[g2,h3]
   let ⟨⟨q1,q2⟩,q3⟩:=EU hc h4
   exact⟨q1,q2,_,rfl,hK0 _ _ (by simp only[vr];exact⟨b,c,ez,g1,rfl⟩) q3⟩
  ·rename_i k n _ i
   rw[DG]at h4
   split at h4
   ·rename_i ez n' f ty hk
    cases hn:Nat.beq ez esz with
    |false=>rw[hn]at h4;exact h4.elim
    |true=>
      rw[hn]at h4
      have hl:=DT hn
      subst hl
      let ⟨⟨q1,q2,q3⟩,q4⟩:=EU hc h4
      simp only[vr]at M h3
      rw[h3]
      rcases M with ⟨g1,g2,g3⟩|⟨b,c,e',g1,g2,_⟩
      ·omega
      ·rw [g2]
       refine⟨q1,q2,_,rfl,hK0 _ _ ?_ q4⟩
       simp only[vr]
       rcases hh.blk k _ hk with ⟨k1,_⟩|⟨b2,c2,az,k1,_⟩
       ·rw[g1]at k1;cases k1
       ·rw[g1]at k1
        obtain⟨rfl,rfl,rfl⟩:b=_/\c=_/\e'=_:=by simpa using k1
        exact⟨b,c,e',g1,by simp[jh.add]⟩
   ·exact h4.elim
  ·rename_i k off n _ i
   rw[DG]at h4
   split at h4
   ·rename_i ez n' f ty hk
    cases hn:Nat.beq ez esz with
    |false=>rw[hn]at h4;exact h4.elim
    |true=>
      rw[hn]at h4
      have hl:=DT hn
      subst hl
      let ⟨⟨q1,q2,q3⟩,q4⟩:=EU hc h4
      simp only[vr]at M h3
      rw[h3]
      rcases M with ⟨g1,g2,g3⟩|⟨b,c,e',o,g1,g2,_,g4⟩
      ·omega
      ·rw [g2,g4 K]
       refine⟨q1,q2,_,rfl,hK0 _ _ ?_ q4⟩
       simp only[vr]
       rcases hh.blk k _ hk with ⟨k1,_⟩|⟨b2,c2,az,k1,_⟩
       ·rw[g1]at k1;cases k1
       ·rw[g1]at k1
        obtain⟨rfl,rfl,rfl⟩:b=_/\c=_/\e'=_:=by simpa using k1
        exact⟨b,c,e',g1,by simp[jh.add,FZ]⟩
   ·exact h4.elim
  ·let ⟨⟨q1,q2⟩,_⟩:=EU hc h4
   omega
  ·exact h4.elim
 case ixA n esz sz x ix=>
  let ⟨u,M,N⟩:=bR Qb hc hs
  let ⟨v,h3,h4⟩:=bR Qb hc N
  split at h4
  ·simp only [vr]at M h3;let ⟨az,g1,g2⟩:=M;rw[g1,h3]
   split at h4
   ·rename_i sz
    split at h4
    ·rename_i ds hd
     let ⟨⟨q1,q2⟩,q3⟩:=EU hc h4
     obtain⟨_,rfl⟩:=tW hd
     exact⟨q1,q2,hK0 _ _ (by simp only[vr];exact⟨_,rfl,ja sz (gY _ g2)⟩) q3⟩
    ·exact h4.elim
   ·split at h4
    ·rename_i w hw
     rw[DG]at hw
     let ⟨⟨q1,q2⟩,q3⟩:=EU hc h4
     let ⟨a,k1,k2⟩:=oO g2 hw
     exact⟨q1,q2,a,k1,hK0 _ _ k2 q3⟩
    ·exact h4.elim
  ·exact h4.elim
 case ixS x ix=>
  let ⟨u,M,N⟩:=bR Qb hc hs
  let ⟨v,h3,h4⟩:=bR Qb hc N
  split at h4
  ·simp only[vr]at M h3;rw[M,h3]
   let ⟨⟨q1,q2⟩,q3⟩:=EU hc h4
   exact⟨q1,q2,hK0 _ _ (by simp only[vr]) q3⟩
  ·exact h4.elim
 case len x=>
  let ⟨u,M,N⟩:=bR Qb hc hs
  split at N
  ·simp only[vr]at M;let ⟨p,c,ez,g1,_,g3,_⟩:=M;rw[g1];exact hK0 _ _ (by simp only[vr]) (N λ_=>g3)
  ·simp only[vr]at M;let ⟨p,c,ez,g1,g2⟩:=M;rw[g2];exact hK0 _ _ (by simp only[vr]) N
  ·simp only[vr]at M
   rcases M with ⟨g1,g2,g3⟩|⟨b,c,e',g1,g2,_⟩
   ·rw[g3];subst g2;exact hK0 _ _ (by simp only[vr]) N
   ·rw[g2];exact hK0 _ _ (by simp only[vr]) N
  ·simp only[vr]at M;rw[M];exact hK0 _ _ (by simp only[vr];rfl) N
  ·simp only[vr]at M
   rcases M with ⟨g1,g2,g3,g4⟩|⟨b,c,e',o,g1,g2,_⟩
   ·rw[g4];subst g2;exact hK0 _ _ (by simp only[vr]) N
   ·rw[g2];exact hK0 _ _ (by simp only[vr]) N
  ·exact N.elim
 case lenT x=>
  let ⟨u,M,N⟩:=bR Qb hc hs
  split at N
  ·simp only[vr]at M;rw[M];exact hK0 _ _ (by simp only[vr]) N
  ·exact N.elim
 case lenA n=>exact hK0 _ _ (by simp only[vr]) hs
 case mm b x xs=>
  let ⟨u,M,N⟩:=bR Qb hc hs
  let ⟨us,h3,h4⟩:=mD Qb hc N
  split at h4
  ·rename_i v hv
   exact yaT hv M h3 λr hr=>hK0 _ _ hr h4
  ·exact h4.elim
 case ext x i=>
  let ⟨u,M,N⟩:=bR Qb hc hs
  split at N
  ·simp only [vr]at M;let ⟨az,g1,g2⟩:=M;rw[g1]
   split at N
   ·rename_i v hv
    rw[DG]at hv
    let ⟨a,q1,q2⟩:=oO g2 hv
    exact⟨a,q1,hK0 _ _ q2 N⟩
   ·exact N.elim
  ·exact N.elim
 case slS esz x lo hi mx=>
  let ⟨u,M,N⟩:=bR Qb hc hs
  let ⟨lo',l1,h3⟩:=mw Qb hc N
  let ⟨Rn,l2,h4⟩:=mw Qb hc h3
  let ⟨mx',l3,h5⟩:=mw Qb hc h4
  split at h5
  ·rename_i n f
   split at h5
   ·simp only [II]at l3
    rw[l3]
    simp only[vr]at M
    let ⟨p,c,ez,g1,g2,g3,g4,g5⟩:=M
    rw[g1]
    cases hz:Nat.beq (cg (f 0)) esz with
    |false=>rw[hz]at h5;exact h5.elim
    |true=>
      rw[hz]at h5
      simp only[cond_true]at h5
      have hz:=DT hz
      rw[b6]at hz
      dsimp only
      rw[kc]
      refine u4 (x:=Rn) (y:=n) g2 (eR hc l2 h5 λb SE Rq h6=>?_)
      have WH:b<=n:=by
       by_cases e1:Rn=none
       ·have:=SE e1;omega
       ·exact Rq e1
      refine eR hc l1 h6 λa Y0 Wb h7=>hK0 _ _ ?_ h7
      have Sl:a<=b:=by
       by_cases e1:lo'=none
       ·have:=Y0 e1;omega
       ·exact Wb e1
      simp only[vr]
      refine⟨_,c-a,esz,rfl,K,K,?_,λi hi=>?_⟩
      ·split
       ·exact g4
       ·cases p with
        |none=>trivial
        |some Pw=>cases Pw with
          |l k o=>
            let ⟨cs,ty,q1,q2⟩:=g4
            refine⟨cs,ty,q1,?_⟩
            by_cases ha0:a=0
            ·subst ha0;simpa using q2
            ·let ⟨q0,as0,j1,j2,j3⟩:=g5 0 K
             have Y5:ez=esz:=by have:=tk j2;have:=bY j3.1;omega
             let ⟨q3,as3,m1,m2,_⟩:=g5 (a-1) K
             cases m1
             simp only[jh.add,lds,q1]at m2
             split at m2
             ·rename_i R8
              have h3:a*ez=(a-1)*ez+ez:=by rw[← E5];congr 1;omega
              show o+a*esz<=cs.length
              rw[← Y5];omega
             ·cases m2
          |g ad=>trivial
      ·let ⟨Pw,az,k1,k2,k3⟩:=g5 (a+i) K
       let ⟨q0,as0,j1,j2,j3⟩:=g5 0 K
       have Y5:ez=esz:=by have:=tk j2;have:=bY j3.1;omega
       subst Y5
       refine⟨Pw.add (a*ez),az,?_,?_,k3⟩
       ·rw[C4 K,k1];rfl
       ·rw[hfo2,← FZ];exact k2
   ·exact h5.elim
  ·rename_i k n
   split at h5
   ·simp only [II]at l1 l3
    rw[l1,l3]
    simp only[vr]at M
    rcases M with ⟨g1,g2,g3⟩|⟨b,c,e',g1,g2,g3⟩
    ·rw [g3]
     subst g2
     dsimp only
     rw[kc]
     refine eR hc l2 h5 λb SE Rq h6=>?_
     have hb:b=0:=by
      by_cases e1:Rn=none
      ·exact SE e1
      ·have:=Rq e1;omega
     subst hb
     rw[kc]
     exact hK0 _ _ (Bb g1) h6
    ·rw [g2]
     dsimp only
     rw[kc]
     refine u4 (x:=Rn) (y:=n) g3 (eR hc l2 h5 λb' SE Rq h6=>?_)
     have WH:b'<=n:=by
      by_cases e1:Rn=none
      ·have:=SE e1;omega
      ·exact Rq e1
     rw[kc]
     refine hK0 _ _ ?_ h6
     simp only[vr]
     refine .inr ⟨b,c,e',g1,?_,K⟩
     simp[jh.add]
   ·rename_i lo2
    rw[DG]at h5
    split at h5
    ·rename_i e2 T O DC hk
     cases hn:Nat.beq e2 esz with
     |false=>rw[hn]at h5;exact h5.elim
     |true=>
       rw[hn]at h5
       simp only[cond_true]at h5
       have:=DT hn
       subst this
       simp only[II]at l3
       rw[l3]
       simp only[vr]at M
       rcases M with ⟨g1,g2,g3⟩|⟨b,c,e',g1,g2,g3⟩
       ·rw [g3]
        subst g2
        dsimp only
        rw[kc]
        refine eR hc l2 h5 λb SE Rq h6=>?_
        have hb:b=0:=by
         by_cases e1:Rn=none
         ·exact SE e1
         ·have:=Rq e1;omega
        subst hb
        refine eR hc l1 h6 λa Y0 Wb h7=>hK0 _ _ ?_ h7
        have ha:a=0:=by have:=Wb au;omega
        subst ha
        simp only[vr]
        exact .inl ⟨g1,trivial,trivial,au⟩
       ·rw [g2]
        dsimp only
        rw[kc]
        refine u4 (x:=Rn) (y:=n) g3 (eR hc l2 h5 λb' SE Rq h6=>?_)
        have WH:b'<=n:=by
         by_cases e1:Rn=none
         ·have:=SE e1;omega
         ·exact Rq e1
        refine eR hc l1 h6 λa Y0 Wb h7=>hK0 _ _ ?_ h7
        have Sl:a<=b':=Wb au
        have he:e'=e2:=by
         rcases hh.blk k _ hk with ⟨k1,_⟩|⟨b2,c2,az,k1,_⟩
         ·rw[g1]at k1;cases k1
         ·rw[g1]at k1;simp at k1;exact k1.2.2
        subst he
        simp only[vr]
        by_cases hm:c=a
        ·refine .inr ⟨b,c,e',0,g1,by rw[CV hm],⟨K,Da _⟩,λh0=>by omega⟩
        ·refine .inr ⟨b,c,e',a*e',g1,by rw[C4 hm];simp[jh.add],⟨K,EA _ K⟩,λ_=>rfl⟩
    ·exact h5.elim
   ·exact h5.elim
  ·rename_i k o n c
   simp only[vr]at M
   let ⟨b,c',e',g1,g2⟩:=M
   rw[g2]
   refine eR hc l3 h5 λm _ _ h6=>eR hc l2 h6 λb' _ _ h7=>eR hc l1 h7 λa _ _ h8=>hK0 _ _ ?_ h8
   simp only[vr]
   refine⟨b,c',e',g1,?_⟩
   unfold WG
   by_cases hm:m=a
   ·subst hm;simp
   ·rw [C4 hm]
    have:Nat.beq m a=false:=by
     cases hb:Nat.beq m a with
     |false=>rfl
     |true=>exact(hm (DT hb)).elim
    rw[this];simp[jh.add]
  ·split at h5
   ·simp only [II]at l3
    rw[l3]
    simp only[vr]at M
    rw[M]
    dsimp only
    rw[kc]
    refine eR hc l2 h5 λb SE Rq h6=>?_
    have hb:b=0:=by
     by_cases e1:Rn=none
     ·exact SE e1
     ·have:=Rq e1;omega
    subst hb
    refine eR hc l1 h6 λa Y0 Wb h7=>?_
    have ha:a=0:=by
     by_cases e1:lo'=none
     ·exact Y0 e1
     ·have:=Wb e1;omega
    subst ha
    exact hK0 _ _ (by simp only[vr];rfl) h7
   ·exact h5.elim
  ·exact h5.elim
 case slA n esz x lo hi mx=>
  let ⟨u,M,N⟩:=bR Qb hc hs
  let ⟨lo',l1,h3⟩:=mw Qb hc N
  let ⟨Rn,l2,h4⟩:=mw Qb hc h3
  let ⟨mx',l3,h5⟩:=mw Qb hc h4
  split at h5
  ·rename_i k o
   simp only[vr]at M
   let ⟨b,c',e',g1,g2⟩:=M
   rw[g2]
   refine eR hc l3 h5 λm _ _ h6=>eR hc l2 h6 λb' _ _ h7=>eR hc l1 h7 λa _ _ h8=>hK0 _ _ ?_ h8
   simp only[vr]
   refine⟨b,c',e',g1,?_⟩
   unfold WG
   by_cases hm:m=a
   ·subst hm;simp
   ·rw [C4 hm]
    have:Nat.beq m a=false:=by
     cases hb:Nat.beq m a with
     |false=>rfl
     |true=>exact(hm (DT hb)).elim
    rw[this];simp[jh.add]
  ·exact h5.elim
 case slT x lo hi=>
  let ⟨u,M,N⟩:=bR Qb hc hs
  let ⟨lo',l1,h3⟩:=mw Qb hc N
  let ⟨Rn,l2,h4⟩:=mw Qb hc h3
  split at h4
  ·simp only[vr]at M
   rw[M]
   exact eR hc l2 h4 λb' _ _ h7=>eR hc l1 h7 λa _ _ h8=>hK0 _ _ (by simp only[vr]) h8
  ·exact h4.elim
 case app ty esz bytes z s x=>
  let ⟨u,M,N,YL⟩:=aav hc (Qb.arg s) hs
  let ⟨v,h3,h4⟩:=bR Qb hc N
  cases hz:Nat.beq (cg z) esz with
  |false=>rw[hz]at h4;exact h4.elim
  |true=>
    rw[hz]at h4
    have hz:=DT hz
    rw[b6]at hz
    refine ix0 hh hp M h3 hz h4 λv h' ν' a lh' SZ g1 g2 g3 g4=>hK v h' ν' a lh' (λhm=>?_) (λe=>by cases e) g1 g2 g3 g4
    let ⟨l,q1,q2⟩:=U4 hm
    simp only[KI]at q1
    split at q1
    ·rename_i l0 p Zx
     cases q1
     have:=YL _ _ Zx
     subst this
     have Uw:plA≠none:=by
      rcases hp with ⟨g,_⟩|⟨_,_,g⟩
      ·cases g
      ·rw[g];simp
     exact SZ Uw wn λl hn k hk=>q2 k (by rw[Zx]at hn;cases hn;exact EQ _ hk)
    ·cases q1
 case mks ty n cs=>
  refine hplace (o:=.cells (cs.map IG) ty) (c:=0) (ez:=0) (F:=λb=>.slice (some (.l b 0)) n n) (λhm=>?_) rfl au (λp b lh' hb T8=>⟨b,0,0,cs,gy _ _ _,hb,qF cs⟩) hs (λp b h' lh' T8 hr S0=>⟨_,?_,S0⟩)
  ·let ⟨l,g,_⟩:=U4 hm;exact hplN g g
  ·simp only[vr];exact⟨b,0,0,gy _ _ _,rfl⟩
 case call f xs=>
  let ⟨us,M,N⟩:=mD Qb hc hs
  exact Rh f us h At Q2 ν nV nS _ lh KA M hh N λv h' ν' a lh' hm=>hK v h' ν' a lh' (λh=>by let ⟨e1,e2,e3⟩:=hm h;subst e1 e2 e3;exact zR.refl _ _ _ _ _ _) (λe=>by cases e)
 case isn neg x=>
  let ⟨u,M,N⟩:=bR Qb hc hs
  split at N
  ·simp only[vr]at M;rw[M];exact hK0 _ _ (by simp only[vr];cases neg<;>rfl) N
  ·simp only[vr]at M;let ⟨b,c,ez,g1,g2⟩:=M;rw[g2];exact hK0 _ _ (by simp only[vr];cases neg<;>rfl) N
  ·simp only [vr]at M
   let ⟨p,c,ez,g1,g2,g3,g4,g5⟩:=M
   rw[g1]
   simp only[bT]at N
   cases p with
   |none=>exact hK0 _ _ (by simp only[vr];cases neg<;>rfl) (N.1 (by
      rename_i n f
      cases n with
      |zero=>rfl
      |succ n=>let ⟨Pw,az,k1,_⟩:=g5 0 K;cases k1))
   |some p=>exact hK0 _ _ (by simp only[vr];cases neg<;>rfl) N.2
  ·simp only[vr]at M
   simp only[bT]at N
   rcases M with ⟨g1,g2,g3⟩|⟨b,c,e',g1,g2,_⟩
   ·rw[g3];exact hK0 _ _ (by simp only[vr];cases neg<;>rfl) (N.1 g2)
   ·rw[g2];exact hK0 _ _ (by simp only[vr];cases neg<;>rfl) N.2
  ·exact N.elim
 case clr esz z x=>
  let ⟨u,M,N⟩:=bR Qb hc hs
  split at N
  ·rename_i k off n
   rw[DG]at N
   split at N
   ·rename_i e' n' f ty hk
    cases hb:(Nat.beq e' esz&&nX e' (z.map IG)) with
    |false=>rw[hb]at N;exact N.elim
    |true=>
      rw[hb]at N
      simp only[cond_true,bT,E0]at N
      simp only[D2]at hb
      have:=DT hb.1
      subst this
      let ⟨⟨U1,R8⟩,h3⟩:=N
      simp only[vr]at M
      rcases M with ⟨_,g2,_⟩|⟨b,c,e2,o,g1,g2,g3,g4⟩
      ·omega
      ·rw [g2,g4 U1]
       have he:e2=e':=by
        rcases hh.blk k _ hk with ⟨k1,_⟩|⟨b2,c2,az,k1,_⟩
        ·rw[g1]at k1;cases k1
        ·rw[g1]at k1;simp at k1;exact k1.2.2
       subst he
       let ⟨cs,q1,q2,q3⟩:=aeM (z:=z.map IG) (za:=z) hh hk g1 (qF z) hb.2 n R8
       rw[iX]at h3
       refine⟨cs,ty,q1,K,q2,hK _ _ ν _ _ (λhm=>?_) (λe=>by cases e) (Nu.sub_refl ν) q3 (by simp only[vr,bI];exact⟨[],rfl,rfl⟩) h3⟩
       let ⟨l,q4,_⟩:=U4 hm
       cases q4
   ·exact N.elim
  ·exact N.elim
 case callv x xs=>
  let ⟨u,M,N⟩:=bR Qb hc hs
  let ⟨us,h3,h4⟩:=mD Qb hc N
  split at h4
  ·simp only[vr]at M;let ⟨az,bs,g1,g2,g3⟩:=M;rw[g1]
   rw[mJ,mJ]at h4
   exact Rh _ _ h At Q2 ν nV nS _ lh KA (lZ (lZ g2 h3) g3) hh h4 λv h' ν' a lh' hm=>hK v h' ν' a lh' (λh=>by let ⟨e1,e2,e3⟩:=hm h;subst e1 e2 e3;exact zR.refl _ _ _ _ _ _) (λe=>by cases e)
  ·exact h4.elim
end
end Go.Dx
