/- Part 2 of a proof. No conditions. -/
import Derived.Test.YtibmdlbnkaihjaaGreatDoorLv1
import Derived.RangeFuncOwn
import Derived.RangeFuncNested
import Derived.Laws.Append
set_option maxRecDepth 100000
set_option linter.unusedVariables false
set_option linter.unusedSimpArgs false
namespace Go.Sx
inductive lJ where
 | op (o:gC)
 | yld (t:Nat) (dst:Option Nat) (xs:List eS)
 | yldG (d:Nat) (want:Bool) (t:Nat) (dst:Option Nat) (xs:List eS)
inductive gE where
 | skip
 | reg (ops:List lJ)
 | draw (ds:List gy)
 | drawY (ds:List gy) (xs:List lJ)
 | seq (a b:gE)
 | cond (c:eS) (a b:gE)
 | block (id:Nat) (b:gE)
 | loop (b:gE)
 | exit (id:Nat)
 | ret
 | scope (b:gE)
structure gk where
 f:FuncId
 ntmps:Nat
 body:gE
inductive fB where
 | skip
 | reg (ops:List gC)
 | draw (ds:List gy)
 | allo (t:OT)
 | alloq (t:OT)
 | seq (a b:fB)
 | cond (c:eS) (a b:fB)
 | block (id:Nat) (b:fB)
 | loop (b:fB)
 | exit (id:Nat)
 | ret
 | scope (b:fB)
 | range (g:eS) (ps:List Nat) (asg body:fB) (its:List gk)
def qy (o:Oper):Option (Nat × List eS) :=
 match o.guard,o.op with
 | none,.call c=>match c.callee with
   | .value (.tmp t)=>some (t,c.args.toList.map aX)
   | _=>none
 | _,_=>none
def oG (ops:Array Oper) (o:Oper):Option (Nat × Bool × Nat × List eS) :=
 match o.guard,o.op with
 | some (j,want),.call c=>match c.callee,(ops[j]?).bind (·.dst) with
   | .value (.tmp t),some d=>some (d,want,t,c.args.toList.map aX)
   | _,_=>none
 | _,_=>none
def iX (P:Program) (eqs:List TypeId) (ops:Array Oper):List Oper->Option (List lJ)
 | []=>some []
 | o :: l=>match iX P eqs ops l with
   | none=>none
   | some xs=>match qy o with
     | some (t,az)=>some (.yld t o.dst az::xs)
     | none=>match oG ops o with
       | some (d,want,t,az)=>some (.yldG d want t o.dst az::xs)
       | none=>match js P eqs ops o with
         | some x=>some (.op x::xs)
         | none=>none
def uN (ops:Array Oper):Nat->Nat->Array Bool->Bool
 | 0,_,listed=>(Region.ready .any ops listed).isEmpty
 | f+1,k,listed=>Region.ready .any ops listed == [k] && uN ops f (k+1) (listed.setIfInBounds k true)
def tL (n y:Nat):Array Bool:=((List.range n).map fun i=>Nat.blt i y).toArray
def Ct (ops:Array Oper):Bool:=(List.range ops.size).all fun i=>match ops[i]? with
 | some o=>o.after.toList.all fun e=>!Region.binds .any e || Nat.blt e.on i
 | none=>true
def Lg (ops:Array Oper) (y:Nat):Bool:=((List.range y).all fun j=>Cm ops ops.size y j) && (List.range ops.size).all fun k=>Nat.ble k y || Cm ops ops.size k y
def qP (P:Program) (eqs:List TypeId) (ops:Array Oper) (y:Nat):Option (List gy × List lJ) :=
 match ew P eqs ops (ops.toList.take y),iX P eqs ops (ops.toList.drop y) with
 | some xs,some its=>if P.follows .mixedOrders && oS (ops.toList.take y).toArray (fV (ops.toList.take y).toArray xs (bT xs 0) xs 0) && wH (ops.toList.take y).toArray (fV (ops.toList.take y).toArray xs (bT xs 0) xs 0).length 0 (Array.replicate ops.size false) && (fV (ops.toList.take y).toArray xs (bT xs 0) xs 0).length == y && Nat.ble y ops.size &&
    (fV (ops.toList.take y).toArray xs (bT xs 0) xs 0).all (fun d=>WA d.o.op || d.ws.isEmpty) && Ct ops && Lg ops y && uN ops (ops.size - y) y (tL ops.size y) then some (fV (ops.toList.take y).toArray xs (bT xs 0) xs 0,its) else none
 | _,_=>none
def VV (ops:Array Oper):Option Nat:=ops.toList.findIdx? fun o=>(qy o).isSome || (oG ops o).isSome
def iE (P:Program) (eqs:List TypeId):Code->Option gE
 | .skip=>some .skip
 | .label _=>some .skip
 | .region _ ops false=>(iX P eqs ops ops.toList).map .reg
 | .region _ ops true=>match VV ops with
   | none=>(oQ P eqs ops).map .draw
   | some y=>(qP P eqs ops y).map fun p=>.drawY p.1 p.2
 | .seq a b=>match iE P eqs a,iE P eqs b with
   | some x,some y=>some (.seq x y)
   | _,_=>none
 | .cond c a b=>match iE P eqs a,iE P eqs b with
   | some x,some y=>some (.cond (aX c) x y)
   | _,_=>none
 | .block id b=>(iE P eqs b).map (.block id)
 | .loop b=>(iE P eqs b).map .loop
 | .exit id=>some (.exit id)
 | .ret=>some .ret
 | .scope b=>(iE P eqs b).map .scope
 | _=>none
def o0 (P:Program) (eqs:List TypeId) (fn:Func):Option (Nat × gE) :=
 match fn.body,fn.results.toList with
 | some c,[]=>(iE P eqs c).map fun x=>(fn.ntmps,x)
 | _,_=>none
def cA (P:Program) (eqs:List TypeId) (its:List gk):Code->Option fB
 | .skip=>some .skip
 | .label _=>some .skip
 | .region _ ops false=>(ew P eqs ops ops.toList).map .reg
 | .region _ ops true=>match xV P eqs ops with
   | some t=>some (.allo t)
   | none=>match qA P eqs ops with
     | some t=>some (.alloq t)
     | none=>(oQ P eqs ops).map .draw
 | .seq a b=>match cA P eqs its a,cA P eqs its b with
   | some x,some y=>some (.seq x y)
   | _,_=>none
 | .cond c a b=>match cA P eqs its a,cA P eqs its b with
   | some x,some y=>some (.cond (aX c) x y)
   | _,_=>none
 | .block id b=>(cA P eqs its b).map (.block id)
 | .loop b=>(cA P eqs its b).map .loop
 | .exit id=>some (.exit id)
 | .ret=>some .ret
 | .scope b=>(cA P eqs its b).map .scope
 | .rangeFunc g ps a b=>match cA P eqs its a,cA P eqs its b with
   | some x,some y=>some (.range (aX g) ps.toList x y its)
   | _,_=>none
 | _=>none
def rU (next:List ak->List ap->Prop) (Q:Ex->List ak->List ap->Prop):Ex->List ak->List ap->Prop
 | .normal,sl,lh=>next sl lh
 | .exit i,sl,lh=>Q (.exit i) sl lh
 | .ret,sl,lh=>Q .ret sl lh
def tw (id:Nat) (Q:Ex->List ak->List ap->Prop):Ex->List ak->List ap->Prop
 | .normal,sl,lh=>Q .normal sl lh
 | .exit i,sl,lh=>if i=id then Q .normal sl lh else Q (.exit i) sl lh
 | .ret,sl,lh=>Q .ret sl lh
def zH:List gk->FuncId->Option gk
 | [],_=>none
 | x::l,f=>if f=x.f then some x else zH l f
def iw (l:Nat):ak:=.raw (.func (.yield l) #[] #[])
def jX:List ak->List Nat->List ak->List ak
 | sl,p::ps,x::xs=>jX (sl.set p x) ps xs
 | sl,_,_=>sl
abbrev YH:=List ak->List ap->(Ex->List ap->Prop)->Prop
abbrev IQ:=Ex->List ak->List ap->Option Ex->Prop
def V6 (K:List ak->List ap->Option Ex->Prop) (sl:List ak) (d:Option Nat):Ex->List ap->Prop
 | .normal,lh=>K (d8 sl d (.bool true)) lh none
 | x,lh=>K (d8 sl d (.bool false)) lh (some x)
def bR (w0:World) (S:FuncId->bE) (l:Nat) (Y:YH):List lJ->List ak->List ap->Option Ex->(List ak->List ap->Option Ex->Prop)->Prop
 | [],sl,lh,g,K=>K sl lh g
 | .op o::rest,sl,lh,g,K=>yae w0 S [o] sl lh fun sl lh=>bR w0 S l Y rest sl lh g K
 | .yld t d xs::rest,sl,lh,g,K=>g=none/\sl.getD t .any=iw l/\Y (xs.map (arg sl)) lh (V6 (fun sl lh g=>bR w0 S l Y rest sl lh g K) sl d)
 | .yldG d want t dst xs::rest,sl,lh,g,K=>match sl.getD d .any with
   | .bool b=>(b=want->g=none/\(sl.set d (.bool want)).getD t .any=iw l/\Y (xs.map (arg (sl.set d (.bool want)))) lh (V6 (fun sl lh g=>bR w0 S l Y rest sl lh g K) (sl.set d (.bool want)) dst)) /\
      (b=!want->bR w0 S l Y rest (d8 (sl.set d (.bool (!want))) dst (.tup [])) lh g K)
   | .tup vs=>bR w0 S l Y rest (d8 (sl.set d (.tup vs)) dst (.tup [])) lh g K
   | .int ..=>bR w0 S l Y rest (d8 sl dst (.tup [])) lh g K
   | _=>False
def Yp (next:List ak->List ap->Option Ex->Prop) (Q:IQ):IQ
 | .normal,sl,lh,g=>next sl lh g
 | .exit i,sl,lh,g=>Q (.exit i) sl lh g
 | .ret,sl,lh,g=>Q .ret sl lh g
def tN (id:Nat) (Q:IQ):IQ
 | .normal,sl,lh,g=>Q .normal sl lh g
 | .exit i,sl,lh,g=>if i=id then Q .normal sl lh g else Q (.exit i) sl lh g
 | .ret,sl,lh,g=>Q .ret sl lh g
def ju (w0:World) (S:FuncId->bE) (l:Nat) (Y:YH):gE->List ak->List ap->Option Ex->IQ->Prop
 | .skip,sl,lh,g,Q=>Q .normal sl lh g
 | .reg ops,sl,lh,g,Q=>bR w0 S l Y ops sl lh g (Q .normal)
 | .draw ds,sl,lh,g,Q=>kU w0 S ds sl lh fun sl lh=>Q .normal sl lh g
 | .drawY ds xs,sl,lh,g,Q=>kU w0 S ds sl lh fun sl lh=>bR w0 S l Y xs sl lh g (Q .normal)
 | .seq a b,sl,lh,g,Q=>ju w0 S l Y a sl lh g (Yp (fun sl lh g=>ju w0 S l Y b sl lh g Q) Q)
 | .cond c a b,sl,lh,g,Q=>match arg sl c with
   | .bool t=>(t=true->ju w0 S l Y a sl lh g Q)/\(t=false->ju w0 S l Y b sl lh g Q)
   | _=>False
 | .block id b,sl,lh,g,Q=>ju w0 S l Y b sl lh g (tN id Q)
 | .loop b,sl,lh,g,Q=>∃ (ι:Type) (shs:ι->List ak) (shl:ι->List ap) (shg:ι->Option Ex) (μ:ι->Nat) (i0:ι),sl=shs i0/\lh=shl i0/\g=shg i0 /\
    ∀ i,ju w0 S l Y b (shs i) (shl i) (shg i) (Yp (fun sl' lh' g'=>∃ i',sl'=shs i'/\lh'=shl i'/\g'=shg i'/\μ i' < μ i) Q)
 | .exit id,sl,lh,g,Q=>Q (.exit id) sl lh g
 | .ret,sl,lh,g,Q=>Q .ret sl lh g
 | .scope b,sl,lh,g,Q=>ju w0 S l Y b sl lh g Q
def ahf (Q:Ex->List ak->List ap->Prop) (sl:List ak):IQ
 | .exit _,_,_,_=>False
 | _,_,lh,none=>Q .normal sl lh
 | _,_,lh,some x=>Q x sl lh
def bO (w0:World) (S:FuncId->bE) (nb:Nat):fB->List ak->List ap->(Ex->List ak->List ap->Prop)->Prop
 | .skip,sl,lh,Q=>Q .normal sl lh
 | .reg ops,sl,lh,Q=>yae w0 S ops sl lh (Q .normal)
 | .draw ds,sl,lh,Q=>kU w0 S ds sl lh (Q .normal)
 | .allo t,sl,lh,Q=>nq w0 S t sl lh (Q .normal)
 | .alloq t,sl,lh,Q=>nq w0 (u6 S) t sl lh (Q .normal)
 | .seq a b,sl,lh,Q=>bO w0 S nb a sl lh (rU (fun sl lh=>bO w0 S nb b sl lh Q) Q)
 | .cond c a b,sl,lh,Q=>match arg sl c with
   | .bool t=>(t=true->bO w0 S nb a sl lh Q)/\(t=false->bO w0 S nb b sl lh Q)
   | _=>False
 | .block id b,sl,lh,Q=>bO w0 S nb b sl lh (tw id Q)
 | .loop b,sl,lh,Q=>∃ (ι:Type) (shs:ι->List ak) (shl:ι->List ap) (μ:ι->Nat) (i0:ι),Sub nb sl lh (shs i0) (shl i0) /\
    ∀ i,bO w0 S nb b (shs i) (shl i) (rU (fun sl' lh'=>∃ i',Sub nb sl' lh' (shs i') (shl i')/\μ i' < μ i) Q)
 | .exit id,sl,lh,Q=>Q (.exit id) sl lh
 | .ret,sl,lh,Q=>Q .ret sl lh
 | .scope b,sl,lh,Q=>bO w0 S nb b sl lh Q
 | .range g ps asg body its,sl,lh,Q=>match arg sl g with
   | .fn (.func f) [] ys=>match zH its f with
     | some it=>∀ l,ju w0 S l (fun xs lh K=>xs.length=ps.length/\bO w0 S lh.length asg (jX sl ps xs) lh (rU (fun sl lh'=>bO w0 S lh.length body sl lh' fun x _ lh=>K x lh) fun _ _ _=>False)) it.body
        (iw l::ys++List.replicate (it.ntmps - (ys.length+1)) .any) lh none (ahf Q sl)
     | none=>False
   | _=>False
def Qa:Ex->Exit
 | .normal=>.normal
 | .exit i=>.exit i
 | .ret=>.ret
def iD (B:cN):List Deferred->World->Prop
 | [],_=>True
 | d::ds,w=>∃ D,d={ target:=.collected D,args:=#[] }/\w.heap[D]? = some (.deferred (some []))/\(B.wf.heap.size<=D/\B.w0.heap.size<=D)/\(∀ d' ∈ ds,d'.target ≠ .collected D)/\iD B ds w
theorem iD.keeps {B:cN} {w w':World} (hk:∀ (D:Nat) (o:Option (List Deferred)),w.heap[D]? = some (Obj.deferred o)->w'.heap[D]? = some (Obj.deferred o)):∀ {ds:List Deferred},iD B ds w->iD B ds w'
 | [],_=>trivial
 | _::_,⟨D,h1,h2,h3,h4,h5⟩=>⟨D,h1,hk _ _ h2,h3,h4,iD.keeps hk h5⟩
theorem iD.old {B:cN} {w:World} {D:Nat}:∀ {ds:List Deferred},iD B ds w->(∀ o:Option (List Deferred),w.heap[D]? ≠ some (Obj.deferred o))->∀ d' ∈ ds,d'.target ≠ .collected D
 | [],_,_,d',hd=>by cases hd
 | d::ds,⟨D',h1,h2,_,_,h4⟩,hn,d',hd=>by
   rcases List.mem_cons.1 hd with rfl | hd
   ·rw [h1]; intro e; cases e; exact hn _ h2
   ·exact iD.old h4 hn d' hd
theorem mn {B:cN} {w w':World} (hk:KeepsOthers w w') {ds:List Deferred} (h:iD B ds w):iD B ds w':=h.keeps fun D _ hD=>hk.same D _ hD rfl
def SR (B:cN) (m:aD) (sl:List ak) (lh:List ap) (a:Act) (w:World):Prop:=aw m sl a.tmps.toList/\iD B a.defers w/\aW B m lh w
def cN.at (B:cN) (m:aD) (lh:List ap) (w:World) (ds:List Deferred):cN:=⟨B.w0,w,fun b=>∃ k cs ty,lh[k]? = some (.cells cs ty)/\m k=some b,ds⟩
theorem aW.rebase {B:cN} {m:aD} {lh:List ap} {w:World} (h:aW B m lh w) (ds:List Deferred):aW (B.at m lh w ds) m lh w :=
 ⟨rfl,rfl,rfl,h.size,h.old,Nat.le_refl _,fun _ _ _=>rfl,fun k cs ty hk=>let ⟨b,vs,h1,h2,h3,h4,_⟩:=h.loc k cs ty hk; ⟨b,vs,h1,h2,h3,h4,.inr ⟨k,cs,ty,hk,h1⟩⟩,h.inj,h.dom,h.dead,h.rng⟩
theorem aW.withDs {B:cN} {m:aD} {lh:List ap} {w:World} (h:aW B m lh w) (ds:List Deferred):aW { B with ds:=ds } m lh w :=
 ⟨h.os,h.tape,h.output,h.size,h.old,h.fsize,h.kept,h.loc,h.inj,h.dom,h.dead,h.rng⟩
theorem aW.noDs {B:cN} {m:aD} {lh:List ap} {w:World} {ds:List Deferred} (h:aW { B with ds:=ds } m lh w):aW B m lh w :=
 ⟨h.os,h.tape,h.output,h.size,h.old,h.fsize,h.kept,h.loc,h.inj,h.dom,h.dead,h.rng⟩
theorem aW.unbase {B:cN} {m m':aD} {lh lh':List ap} {w w':World} {ds:List Deferred} (h:aW B m lh w) (h':aW (B.at m lh w ds) m' lh' w'):aW B m' lh' w'/\KeepsOthers w w':=by
 have hown:∀ b,(∃ k cs ty,lh[k]? = some (.cells cs ty)/\m k=some b)->B.wf.heap.size<=b ∨ B.own b:=fun b ⟨k,cs,ty,h1,h2⟩=>by
  obtain ⟨b',vs,g1,_,_,_,g2⟩:=h.loc k cs ty h1
  rw [h2] at g1; cases g1; exact g2
 refine ⟨⟨h'.os.trans h.os,h'.tape.trans h.tape,h'.output.trans h.output,h'.size,h'.old,Nat.le_trans h.fsize h'.fsize,fun b hb ho=>?_,fun k cs ty hk=>?_,h'.inj,h'.dom,h'.dead,h'.rng⟩,⟨h'.fsize,fun k o hk ho=>?_⟩⟩
 ·rw [h'.kept b (Nat.lt_of_lt_of_le hb h.fsize) (fun hn=>by rcases hown b hn with h1 | h1; exact absurd hb (by omega); exact ho h1)]
  exact h.kept b hb ho
 ·obtain ⟨b,vs,h1,h2,h3,h4,h5⟩:=h'.loc k cs ty hk
  refine ⟨b,vs,h1,h2,h3,h4,?_⟩
  rcases h5 with h5 | h5
  ·exact .inl (Nat.le_trans h.fsize h5)
  ·exact hown b h5
 ·refine (h'.kept k (Array.getElem?_eq_some_iff.1 hk).1 (fun ⟨k',cs,ty,h1,h2⟩=>?_)).trans hk
  obtain ⟨b',vs,g1,_,g3,_⟩:=h.loc k' cs ty h1
  rw [h2] at g1; cases g1
  rw [hk] at g3; cases g3; cases ho
def QC (B:cN) (nb:Nat) (lh0:List ap) (m0:aD) (w1:World) (Q:Ex->List ak->List ap->Prop) (e:Exit) (a:Act) (w:World):Prop :=
 ∃ x sl lh m,e=Qa x/\SR B m sl lh a w/\lL nb lh0 m0 lh m/\KeepsOthers w1 w/\Q x sl lh
section
variable {P:Program} {B:cN} {S:FuncId->bE} {eqs:List TypeId} {F:Fence} {n nb:Nat}
theorem QC.of {lh0:List ap} {m0:aD} {lh:List ap} {m:aD} {w0 w1:World} {Q Q':Ex->List ak->List ap->Prop} {e:Exit} {a:Act} {w:World} (he:lL nb lh0 m0 lh m) (hk:KeepsOthers w0 w1) (hq:∀ x sl lh,Q x sl lh->Q' x sl lh)
 (h:QC B nb lh m w1 Q e a w):QC B nb lh0 m0 w0 Q' e a w:=by
 obtain ⟨x,sl,lh',m',h1,h2,h3,h4,h5⟩:=h
 exact ⟨x,sl,lh',m',h1,h2,he.trans h3,hk.trans h4,hq _ _ _ h5⟩
theorem iH {c:Code} {Q:Exit->Act->World->Prop} {a:Act} {w:World} (hQ:∀ l a w,¬ Q (.goto l) a w) (h:c.wpIn F n P Q a w):(Code.scope c).wpIn F n P Q a w:=by
 intro b k cs hro hb hr
 have h0:(lone (b.atR a (.code (.scope c)::k)) cs w).fenced P F:=fenced_calm hb hr rfl
 have hstep:∀ {a:Act} {w:World},step P (lone (b.atR a (.code (.scope c)::k)) cs w)=.next (lone (b.atR a (.code c::.inScope c::k)) cs w):=fun {a w}=>step_lone_go (by simp [stepG,stepG.exec,Frame.atR])
 have hend:∀ {a:Act} {w:World},step P (lone (b.atR a (.inScope c::k)) cs w)=.next (lone (b.atR a k) cs w):=fun {a w}=>step_lone_go (by simp [stepG,stepG.exec,Frame.atR])
 obtain ⟨e,a₁,w₁,hq,harr⟩:=h b (.inScope c::k) cs hro hb hr
 have hx:∀ id,exitTo id (.inScope c::k)=exitTo id k:=fun id=>by simp [exitTo]
 cases e with
 | normal=>exact ⟨.normal,a₁,w₁,hq,.head h0 hstep (StepsIn.trans harr (.one (fenced_calm hb hr rfl) hend))⟩
 | exit id =>
   exact ⟨.exit id,a₁,w₁,hq,fun k' hk=>.head h0 hstep (harr.1 k' (by rw [hx]; exact hk)),fun hr' hk=>let ⟨k₁,g1,g2⟩:=harr.2 hr' (by rw [hx]; exact hk); ⟨k₁,g1,.head h0 hstep g2⟩⟩
 | goto l=>exact (hQ l _ _ hq).elim
 | ret=>exact ⟨_,a₁,w₁,hq,.of_steps (.one h0 hstep) harr⟩
 | panic ch=>exact ⟨_,a₁,w₁,hq,.of_steps (.one h0 hstep) harr⟩
 | outgrown=>exact ⟨_,a₁,w₁,hq,.of_steps (.one h0 hstep) harr⟩
theorem lH {c:Code} {Q:Exit->Act->World->Prop} {a:Act} {w:World} (I:Nat->Act->World->Prop) (h₀:∃ k,I k a w)
 (round:∀ k a w,I k a w->c.wpIn F n P (Exit.then (fun a' w'=>∃ k',k' < k/\I k' a' w') Q) a w):(Code.loop c).wpIn F n P Q a w:=by
 intro b k cs hro hb hr
 have key:∀ j a w,I j a w->∃ e a' w',Q e a' w'/\ArrivesIn (Machine.fenced P F) P (lone (b.atR a (.code c::.inLoop c::k)) cs w) b k cs e a' w':=by
  intro j
  induction j using Nat.strongRecOn with
  | _ j ih =>
    intro a w hI
    obtain ⟨e,a₁,w₁,hq,harr⟩:=round j a w hI b (.inLoop c::k) cs hro hb hr
    cases e with
    | normal =>
      obtain ⟨k',hlt,hI₁⟩:=hq
      obtain ⟨e₂,a₂,w₂,hq₂,harr₂⟩:=ih k' hlt a₁ w₁ hI₁
      exact ⟨e₂,a₂,w₂,hq₂,.of_steps (StepsIn.trans harr (.one (fenced_calm hb hr rfl) stepR_inLoop)) harr₂⟩
    | exit id=>exact ⟨_,a₁,w₁,hq,.pass (x:=.inLoop c) rfl (fun _ _=>.inl (by simp)) harr⟩
    | goto l=>exact ⟨_,a₁,w₁,hq,.pass (x:=.inLoop c) rfl (fun _ _=>.inl (by simp)) harr⟩
    | ret=>exact ⟨_,a₁,w₁,hq,.pass (x:=.inLoop c) rfl (fun _ _=>.inl (by simp)) harr⟩
    | panic ch=>exact ⟨_,a₁,w₁,hq,.pass (x:=.inLoop c) rfl (fun _ _=>.inl (by simp)) harr⟩
    | outgrown=>exact ⟨_,a₁,w₁,hq,.pass (x:=.inLoop c) rfl (fun _ _=>.inl (by simp)) harr⟩
 obtain ⟨k0,h0⟩:=h₀
 obtain ⟨e,a',w',hq,harr⟩:=key k0 a w h0
 exact ⟨e,a',w',hq,.of_steps (.one (fenced_calm hb hr rfl) stepR_loop) harr⟩
def jmp:Ex->Code
 | .normal=>.skip
 | .exit i=>.exit i
 | .ret=>.ret
def DJ:Ex->Option Ex
 | .normal=>none
 | x=>some x
structure KB (l:Nat) (W W':World):Prop where
 size:W.heap.size<=W'.heap.size
 same:∀ (k:Nat) (o:Obj),k ≠ l->W.heap[k]? = some o->o.isCells=false->W'.heap[k]? = some o
theorem KB.refl (l:Nat) (W:World):KB l W W:=⟨Nat.le_refl _,fun _ _ _ h _=>h⟩
theorem KB.keeps {l:Nat} {A W W':World} (h:KB l A W) (k:KeepsOthers W W'):KB l A W':=⟨Nat.le_trans h.size k.size,fun i o hi ho hc=>k.same i o (h.same i o hi ho hc) hc⟩
theorem KB.put {l:Nat} {A W:World} (h:KB l A W) (o:Obj):KB l A (W.putObj l o):=⟨by simpa using h.size,fun i o' hi ho hc=>(World.putObj_heap_other hi).trans (h.same i o' hi ho hc)⟩
def yaG (l:Nat) (rec:LoopState->Option Code->Loop) (g:Option Ex) (w:World):Prop:=w.heap[l]? = some (.loop (rec (if g.isNone then .ready else .done) (g.map jmp)))
theorem aW.putObj {m:aD} {lh:List ap} {w:World} (h:aW B m lh w) {l:Nat} {o:Obj} (hl:w.heap[l]? = some o) (ho:o.isCells=false) (hf:B.wf.heap.size<=l) (h0:B.w0.heap.size<=l) (o':Obj):aW B m lh (w.putObj l o'):=by
 refine ⟨h.os,h.tape,h.output,by simpa using h.size,fun b hb=>(World.putObj_heap_other (by omega)).trans (h.old b hb),by simpa using h.fsize,fun b hb ho=>(World.putObj_heap_other (by omega)).trans (h.kept b hb ho),fun k cs ty hk=>?_,h.inj,h.dom,h.dead,fun k b hk=>by simpa using h.rng k b hk⟩
 obtain ⟨b,vs,h1,h2,h3,h4,h5⟩:=h.loc k cs ty hk
 refine ⟨b,vs,h1,h2,(World.putObj_heap_other (fun e=>?_)).trans h3,h4,h5⟩
 subst e; rw [hl] at h3; cases h3; cases ho
theorem AT {lh lh':List ap} {m m':aD} {w:World} (h:aW B m lh w) (he:lL lh.length lh m lh' m'):gJ lh m lh' m':=by
 refine ⟨fun k b hk=>he.1 k b ?_ hk,fun k hk=>he.2 k (List.getElem?_eq_some_iff.1 hk).1 hk⟩
 rcases Nat.lt_or_ge k lh.length with hlt | hge
 ·exact hlt
 ·rw [h.dom k hge] at hk; cases hk
structure IR (B:cN) (l:Nat) (rec:LoopState->Option Code->Loop) (W1:World) (lh0:List ap) (m0:aD) (m:aD) (sl:List ak) (lh:List ap) (g:Option Ex) (a:Act) (w:World):Prop where
 vs:aw m sl a.tmps.toList
 df:a.defers=[]
 hh:aW B m lh w
 ext:gJ lh0 m0 lh m
 rc:yaG l rec g w
 kb:KB l W1 w
def YS (B:cN) (F:Fence) (n:Nat) (P:Program) (l:Nat) (rec:LoopState->Option Code->Loop) (W1:World) (lh0:List ap) (m0:aD) (Y:YH):Prop :=
 ∀ (m:aD) (lh:List ap) (w:World) (args:List ak) (vs:List Value) (K:Ex->List ap->Prop),aW B m lh w->gJ lh0 m0 lh m->yaG l rec none w->KB l W1 w->aw m args vs->Y args lh K ->
  ∃ fn tmps asg body,(Instr.yield l vs.toArray).run P w=.ok (.round l fn tmps asg body) w/\RoundIn F (n - 1) P l fn tmps asg body w fun e w'=>∃ x m' lh',e=.returned (.bool (DJ x).isNone)/\aW B m' lh' w'/\gJ lh m lh' m'/\yaG l rec (DJ x) w'/\KB l W1 w'/\K x lh'
section it
variable {l:Nat} {rec:LoopState->Option Code->Loop} {W1:World} {lh0:List ap} {m0:aD} {Y:YH}
def QI (B:cN) (l:Nat) (rec:LoopState->Option Code->Loop) (W1:World) (lh0:List ap) (m0:aD) (Q:IQ) (e:Exit) (a:Act) (w:World):Prop :=
 ∃ x sl lh m g,e=Qa x/\IR B l rec W1 lh0 m0 m sl lh g a w/\Q x sl lh g
theorem IR.step {m m':aD} {sl sl':List ak} {lh lh':List ap} {g:Option Ex} {a a':Act} {w w':World} (h:IR B l rec W1 lh0 m0 m sl lh g a w) (hs:im (B.at m lh w []) m' sl' lh' a' w') (he:gJ lh m lh' m'):IR B l rec W1 lh0 m0 m' sl' lh' g a' w':=by
 obtain ⟨h1,h2⟩:=h.hh.unbase hs.2.2
 exact ⟨hs.1,hs.2.1,h1,h.ext.trans he,h2.same _ _ h.rc rfl,h.kb.keeps h2⟩
theorem tJ (hF:jd F) (hY:YS B F n P l rec W1 lh0 m0 Y) {Q:Exit->Act->World->Prop} {next:Act->World->Prop} {o:Oper} {c:Call} {t:Nat} {sl:List ak} {lh:List ap} {m:aD} {a:Act} {w:World} {K:Ex->List ap->Prop}
 (hs:IR B l rec W1 lh0 m0 m sl lh none a w) (hy0:sl.getD t .any=iw l) (hv:Y ((c.args.toList.map aX).map (arg sl)) lh K) (ho:o.op=.call c) (hcal:c.callee=.value (.tmp t))
 (ih:∀ x lh' m' a' w',IR B l rec W1 lh0 m0 m' (d8 sl o.dst (.bool (DJ x).isNone)) lh' (DJ x) a' w'->K x lh'->next a' w'):o.wpIn F n P a w next Q:=by
 refine ⟨fun f _=>hF.fn f,?_⟩
 have hsem:o.semAt F.round a.eval=execOp a.eval o:=by
  unfold Oper.semAt; split
  ·rename_i ho'; rw [ho] at ho'; cases ho'
  ·rfl
 have hev:a.eval (.tmp t)=.func (.yield l) #[] #[]:=by
  have:=lc hs.vs t undef
  rw [hy0] at this
  simp only [iw,vrel] at this
  simpa [Act.eval] using this
 obtain ⟨fn,tmps,asg,body,hrun,hround⟩:=hY m lh w _ _ _ hs.hh hs.ext hs.rc hs.kb (fK hs.vs c.args.toList) hv
 have hexec:(execOp a.eval o).run P w=.ok (.round l fn tmps asg body) w:=by
  simp only [execOp,ho]
  rw [ac (a:={ target:=.fn (.yield l) #[],args:=#[]++c.args.map a.eval }) (w':=w) (by simp only [resolve,hcal,hev]; rfl)]
  simp only [invoke]
  have:#[]++c.args.map a.eval++#[]=(c.args.toList.map a.eval).toArray:=by
   apply Array.toList_inj.1; simp
  first
   | (rw [this]; exact hrun)
   | (have e2:#[]++c.args.map a.eval=(c.args.toList.map a.eval).toArray:=by
       apply Array.toList_inj.1; simp
      rw [e2]; exact hrun)
 rw [hsem,hexec,Oper.uponIn_round]
 refine ⟨fun e=>(by rw [hF.depth] at e; cases e),hround.mono fun e w' ⟨x,m',lh',he,g1,g2,g3,g4,g5⟩=>?_⟩
 subst he
 have hp:∀ b,IR B l rec W1 lh0 m0 m' (d8 sl o.dst (.bool b)) lh' (DJ x) (a.put o.dst (.bool b)) w':=fun b=>by
  refine ⟨?_,by cases o.dst <;> exact hs.df,g1,hs.ext.trans g2,g3,g4⟩
  rw [zW]
  cases o.dst with
  | none=>exact b6 g2.1 _ _ hs.vs
  | some d=>exact iV d (b6 g2.1 _ _ hs.vs) (by simp only [vrel])
 refine ih x lh' m' _ w' ?_ g5
 exact hp _
theorem kh {ops:Array Oper} (hF:jd F) (hS:∀ f,(S f).Ok P f) (hE:∀ t ∈ eqs,cB P t) (hY:YS B F n P l rec W1 lh0 m0 Y) {Q:Exit->Act->World->Prop}:∀ (os:List Oper) (xs:List lJ) (k:Nat) (sl:List ak) (lh:List ap) (m:aD) (g:Option Ex) (a:Act) (w:World) (K:List ak->List ap->Option Ex->Prop),
 (∀ j,os[j]? = ops[k+j]?)->iX P eqs ops os=some xs->bR B.w0 S l Y xs sl lh g K->IR B l rec W1 lh0 m0 m sl lh g a w ->
 (∀ sl' lh' m' g' a' w',IR B l rec W1 lh0 m0 m' sl' lh' g' a' w'->K sl' lh' g'->Q .normal a' w')->wpOpsIn F n P ops Q (List.range' k os.length) a w
 | [],xs,k,sl,lh,m,g,a,w,K,_,hc,hv,hs,hQ=>by
   simp only [iX,Option.some.injEq] at hc; subst hc
   exact hQ _ _ _ _ _ _ hs hv
 | o :: os, xs,k,sl,lh,m,g,a,w,K,hl,hc,hv,hs,hQ=>by
   have h0:ops[k]? = some o:=by simpa using (hl 0).symm
   have hl':∀ j,os[j]? = ops[k+1+j]? := fun j=>by have:=hl (j+1); simpa [Nat.add_assoc,Nat.add_comm 1 j] using this
   simp only [iX] at hc
   split at hc
   ·cases hc
   ·rename_i xs' hxs
    have ih:=fun sl1 lh1 m1 g1 a1 w1 hv hs=>kh hF hS hE hY os xs' (k+1) sl1 lh1 m1 g1 a1 w1 K hl' hxs hv hs hQ
    split at hc
    ·rename_i t az hy
     cases hc
     simp only [bR] at hv
     obtain ⟨rfl,hy0,hv⟩:=hv
     unfold qy at hy
     split at hy
     ·rename_i c hg ho
      split at hy
      ·rename_i t hcal
       cases hy
       simp only [List.length_cons,List.range'_succ,wpOpsIn,h0]
       rw [if_pos (by simp [Region.wanted,hg])]
       exact tJ hF hY hs hy0 hv ho hcal fun x lh' m' a' w' h1 h2=>by
        cases x <;> exact ih _ _ _ _ _ _ h2 h1
      ·cases hy
     ·cases hy
    ·split at hc
     ·rename_i d want t az hy
      cases hc
      simp only [bR] at hv
      unfold oG at hy
      split at hy
      ·rename_i j wt c hg ho
       split at hy
       ·rename_i t2 d2 hcal hd
        cases hy
        simp only [List.length_cons,List.range'_succ,wpOpsIn,h0]
        have hsr:im (B.at m lh w []) m sl lh a w:=⟨hs.vs,hs.df,hs.hh.rebase []⟩
        obtain ⟨y1,y2,y3⟩:=oM (ops:=ops) hs.vs hd
        split at hv
        ·rename_i b hb
         have hyb:=y1 b hb
         have hs':=hs.step (eJ hsr hb) (gJ.refl _ _)
         by_cases hbw:b=want
         ·subst hbw
          obtain ⟨rfl,hy0,hv⟩:=hv.1 rfl
          rw [if_pos (by simp [Region.wanted,hg,hyb])]
          exact tJ hF hY hs' hy0 hv ho hcal fun x lh' m' a' w' h1 h2=>by
           cases x <;> exact ih _ _ _ _ _ _ h2 h1
         ·have hbn:b=!want:=by cases b <;> cases want <;> simp_all
          rw [if_neg (by simp [Region.wanted,hg,hyb,hbw])]
          refine ⟨fun f _=>hF.fn f,?_⟩
          have hsr':=eJ hsr hb
          rw [hbn] at hsr'
          exact ih _ _ _ _ _ _ (hv.2 hbn) (hs.step (hsr'.put (aD.le_refl m) (hs.hh.rebase []) o.dst (by simp [vrel,aw,undef])) (gJ.refl _ _))
        ·rename_i vs hb
         rw [if_neg (by simp [Region.wanted,hg,y2 _ hb])]
         refine ⟨fun f _=>hF.fn f,?_⟩
         exact ih _ _ _ _ _ _ hv (hs.step ((eJ hsr hb).put (aD.le_refl m) (hs.hh.rebase []) o.dst (by simp [vrel,aw,undef])) (gJ.refl _ _))
        ·rename_i hb
         rw [if_neg (by simp [Region.wanted,hg,y3 _ _ hb])]
         refine ⟨fun f _=>hF.fn f,?_⟩
         exact ih _ _ _ _ _ _ hv (hs.step (hsr.put (aD.le_refl m) (hs.hh.rebase []) o.dst (by simp [vrel,aw,undef])) (gJ.refl _ _))
        ·exact hv.elim
       ·cases hy
      ·cases hy
     split at hc
     ·rename_i x hx
      cases hc
      simp only [bR] at hv
      have hj0:∀ j,j < [o].length->[o][j]? = ops[k+j]? := fun j hj=>by
       obtain rfl:j=0:=by simpa using hj
       simpa using hl 0
      have:=mC (n:=n) (ops:=ops) (B:=B.at m lh w []) (Q:=Q) hF (fun f=>(hS f).sound) hE (List.range' (k+1) os.length) [o] [x] k sl lh m a w _ hj0 (by simp [ew,hx]) hv ⟨hs.vs,hs.df,hs.hh.rebase []⟩ (fun sl' lh' m' a' w' h1 h2 h3=>ih _ _ _ _ _ _ h3 (hs.step h1 h2))
      simpa [List.range'_succ] using this
     ·cases hc
theorem tC {ops:Array Oper} {Q:Exit->Act->World->Prop}:∀ (f k fuel:Nat) (listed:Array Bool) (a:Act) (w:World),f<=fuel->uN ops f k listed=true->wpOpsIn F n P ops Q (List.range' k f) a w->wpAnyIn F n P .any ops Q fuel listed a w
 | 0,k,fuel,listed,a,w,_,ht,h=>by
   have hr:Region.ready .any ops listed=[]:=by simpa [uN] using ht
   cases fuel with
   | zero=>exact ⟨hr,h⟩
   | succ fuel=>exact ⟨fun _=>h,fun i hi=>by rw [hr] at hi; cases hi⟩
 | f+1,k,0,listed,a,w,hf,_,_=>by omega
 | f+1,k,fuel+1,listed,a,w,hf,ht,h=>by
   simp only [uN,Bool.and_eq_true,beq_iff_eq] at ht
   refine ⟨fun e=>(by rw [ht.1] at e; cases e),fun i hi=>?_⟩
   rw [ht.1] at hi
   obtain rfl:i=k:=by simpa using hi
   simp only [List.range'_succ,wpOpsIn_cons] at h
   exact wpOpIn_mono (fun a w h=>tC f (i+1) fuel _ a w (by omega) ht.2 h) h
theorem wy {n y:Nat} {L:Array Bool} (hs:L.size=n) (h1:∀ i,i < y->L.getD i false=true) (h2:∀ i,y<=i->L.getD i false=false):L=tL n y:=by
 apply Array.ext
 ·simp [tL,hs]
 ·intro i hi hi'
  have e:L.getD i false=L[i]:=by simp [hi]
  simp only [tL,List.getElem_toArray,List.getElem_map,List.getElem_range]
  rw [← e]
  by_cases hy:i < y
  ·rw [h1 i hy]; simp [Nat.blt_eq,hy]
  ·rw [h2 i (by omega)]; cases hb:Nat.blt i y with
   | false=>rfl
   | true=>exact (hy (by simpa [Nat.blt_eq] using hb)).elim
theorem rM {ops:Array Oper} (hb:Ct ops=true) {y:Nat} (hy:y<=ops.size) {L:Array Bool} (hs:L.size=ops.size) (hr:Region.ready .any (ops.toList.take y).toArray L=[]):∀ i,i < y->L.getD i false=true:=by
 intro i
 induction i using Nat.strongRecOn with
 | ind i ih =>
   intro hi
   apply Classical.byContradiction
   intro hne
   have hlt:i < ops.size:=by omega
   have hm:i ∈ Region.ready .any (ops.toList.take y).toArray L:=by
    refine mem_ready.2 ⟨?_,ops[i],?_,fun e he hbe=>?_⟩
    ·have:i < L.size:=by omega
     simp only [Array.getD_eq_getD_getElem?,Array.getElem?_eq_getElem this,Option.getD_some] at hne ⊢
     simpa using hne
    ·simp [hi,hlt]
    ·have h1:=List.all_eq_true.1 hb i (by simpa using hlt)
     rw [Array.getElem?_eq_getElem hlt] at h1
     have h2:=List.all_eq_true.1 h1 e (by simpa using he)
     rw [hbe] at h2
     have h3:e.on < i:=by simpa [Nat.blt_eq] using h2
     exact ih e.on h3 (by omega)
   rw [hr] at hm; cases hm
theorem Ai {ops:Array Oper} (hF:jd F) (hS:∀ f,(S f).Ok P f) (hE:∀ t ∈ eqs,cB P t) {y n0:Nat} {B:cN} {ds:List gy} {Ws:List (List Nat)} {xs:List gC} (hc:ew P eqs ops (ops.toList.take y)=some xs) (hd:∀ j:Nat,ds[j]?.map gy.o=xs[j]?)
 (hb:Ct ops=true) (hdep:Lg ops y=true) (hy:y<=ops.size) {K:List ak->List ap->Prop} {Q:Exit->Act->World->Prop} {lh0:List ap} {m0:aD} {r:Nat}
 (hQ:∀ sl' lh' m' a' w' fuel,im B m' sl' lh' a' w'->gJ lh0 m0 lh' m'->K sl' lh'->r<=fuel->wpAnyIn F n P .any ops Q fuel (tL ops.size y) a' w') :
 ∀ (fuel:Nat) (listed:Array Bool) (sl:List ak) (lh:List ap) (m:aD) (a:Act) (w:World),listed.size=ops.size->(∀ i,y<=i->listed.getD i false=false)->e8 ops listed->im B m sl lh a w->gJ lh0 m0 lh m->Ch B.w0 S (ops.toList.take y).toArray ds Ws n0 K fuel listed sl lh->wpAnyIn F n P .any ops Q (fuel+r) listed a w:=by
 intro fuel
 induction fuel with
 | zero =>
   intro listed sl lh m a w hsz hl hcl hs he h
   rw [wy hsz (rM hb hy hsz h.1) hl]
   exact hQ _ _ _ _ _ _ hs he h.2 (by omega)
 | succ fuel ih =>
   intro listed sl lh m a w hsz hl hcl hs he h
   by_cases hr:Region.ready .any (ops.toList.take y).toArray listed=[]
   ·rw [wy hsz (rM hb hy hsz hr) hl]
    exact hQ _ _ _ _ _ _ hs he (h.1 hr) (by omega)
   ·obtain ⟨j,hj⟩:=List.exists_mem_of_ne_nil _ hr
    obtain ⟨hj1,oj,hoj,hj3⟩:=mem_ready.1 hj
    have hget:∀ i o,(ops.toList.take y).toArray[i]? = some o->i < y/\ops[i]? = some o:=fun i o hi=>by
     simp only [List.getElem?_toArray,List.getElem?_take] at hi
     split at hi
     ·rename_i hlt; exact ⟨hlt,by simpa using hi⟩
     ·cases hi
    obtain ⟨hjy,hoj'⟩:=hget j oj hoj
    have hjf:listed.getD j false=false:=by
     have:j < listed.size:=by rw [hsz]; exact (Array.getElem?_eq_some_iff.1 hoj').1
     simp only [Array.getD_eq_getD_getElem?,Array.getElem?_eq_getElem this,Option.getD_some] at hj1 ⊢
     exact hj1
    have hin:∀ i,i ∈ Region.ready .any ops listed->i < y/\i ∈ Region.ready .any (ops.toList.take y).toArray listed:=fun i hi=>by
     obtain ⟨hi1,oi,hoi,hi3⟩:=mem_ready.1 hi
     unfold Lg at hdep
     simp only [Bool.and_eq_true] at hdep
     have hlt:i < y:=by
      apply Classical.byContradiction
      intro hge
      by_cases e:i=y
      ·subst e
       have:=eo hcl ops.size i oi hoi hi3 (List.all_eq_true.1 hdep.1 j (by simpa using hjy))
       rw [hjf] at this; cases this
      ·have h1:=List.all_eq_true.1 hdep.2 i (by simpa using (Array.getElem?_eq_some_iff.1 hoi).1)
       have h2:Nat.ble i y=false:=by
        cases hb:Nat.ble i y with
        | false=>rfl
        | true=>have:=Nat.le_of_ble_eq_true hb; omega
       rw [h2,Bool.false_or] at h1
       have:=eo hcl ops.size i oi hoi hi3 h1
       rw [hl y (Nat.le_refl _)] at this; cases this
     exact ⟨hlt,mem_ready.2 ⟨hi1,oi,by simpa [List.getElem?_take,hlt] using hoi,hi3⟩⟩
    rw [show fuel+1+r=(fuel+r)+1 by omega]
    refine ⟨fun e=>?_,fun i hi=>?_⟩
    ·have hm:j ∈ Region.ready .any ops listed:=mem_ready.2 ⟨hj1,oj,hoj',hj3⟩
     have e':Region.ready .any ops listed=[]:=e
     rw [e'] at hm; cases hm
    ·have hi':i ∈ Region.ready .any ops listed:=hi
     obtain ⟨hiy,hir⟩:=hin i hi'
     have h2:=h.2 i hir
     obtain ⟨_,o,ho,_⟩:=mem_ready.1 hi'
     obtain ⟨x,hx,hco⟩:=jQ (ops.toList.take y) xs i o hc (by simpa [List.getElem?_take,hiy] using ho)
     have hdi:=hd i
     rw [hx] at hdi
     simp only [Option.map_eq_some_iff] at hdi
     obtain ⟨d,hd1,hd2⟩:=hdi
     unfold zD at h2
     simp only [hd1] at h2
     rw [hd2] at h2
     exact wj hF hS hE ho hco hs h2 fun sl' lh' m' a' w' h3 h4 h5=>ih _ sl' lh' m' a' w' (by simpa using hsz) (fun k hk=>by rw [getD_set_ne false (by omega)]; exact hl k hk) (eC hcl hi') h3 (he.trans h4) h5
theorem vk {ops:Array Oper} (hF:jd F) (hS:∀ f,(S f).Ok P f) (hE:∀ t ∈ eqs,cB P t) (hY:YS B F n P l rec W1 lh0 m0 Y) {y id:Nat} {ds:List gy} {its:List lJ} (hc:qP P eqs ops y=some (ds,its)) {sl:List ak} {lh:List ap} {m:aD} {g:Option Ex} {a:Act} {w:World} {Q:IQ}
 (hs:IR B l rec W1 lh0 m0 m sl lh g a w) (hv:kU B.w0 S ds sl lh fun sl lh=>bR B.w0 S l Y its sl lh g (Q .normal)):(Code.region id ops true).wpIn F n P (QI B l rec W1 lh0 m0 Q) a w:=by
 unfold qP at hc
 split at hc
 ·rename_i xs its' hxs hits
  split at hc
  ·rename_i hcond
   cases hc
   simp only [Bool.and_eq_true,beq_iff_eq] at hcond
   obtain ⟨⟨⟨⟨⟨⟨⟨⟨h1,h2⟩,h3⟩,h4⟩,h5⟩,h6⟩,h7⟩,h8⟩,h9⟩:=hcond
   have h5':=Nat.le_of_ble_eq_true h5
   have hA:(ops.toList.take y).toArray.size=y:=by simp; omega
   obtain ⟨hw,ht⟩:=hv
   have hw':yaK (fV (ops.toList.take y).toArray xs (bT xs 0) xs 0) (jY B.w0 lh sl lh.length (fV (ops.toList.take y).toArray xs (bT xs 0) xs 0)):=fun i d hd=>by
    refine ⟨fun hnw=>?_,?_⟩
    ·unfold wOf
     rw [mZ,hd]
     have:=List.all_eq_true.1 h6 d (List.mem_of_getElem? hd)
     simp [hnw] at this
     simp [this,rl]
    ·have:=lZ (ds:=fV (ops.toList.take y).toArray xs (bT xs 0) xs 0) (fV (ops.toList.take y).toArray xs (bT xs 0) xs 0) 0 (fun j=>by simp) hw i d (by simpa using hd)
     simpa using this
   generalize jY B.w0 lh sl lh.length (fV (ops.toList.take y).toArray xs (bT xs 0) xs 0)=Ws at hw ht hw'
   refine wpIn_region_any h1 ?_
   have hcl:∀ os:Array Oper,e8 os (Array.replicate ops.size false):=fun os k o hk=>by
    simp [Array.getElem?_replicate] at hk
    split at hk <;> simp at hk
   have hany:=kW hS hw' h2 (h4.trans hA.symm) (fV (ops.toList.take y).toArray xs (bT xs 0) xs 0) 0 _ sl _ (fun j=>by simp) h3 (hcl _) ht
   have hext:gJ lh m (lh++List.replicate (M3 (fV (ops.toList.take y).toArray xs (bT xs 0) xs 0)) .dead) m:=⟨aD.le_refl m,fun k hk=>⟨by rw [List.getElem?_append_left (List.getElem?_eq_some_iff.1 hk).1]; exact hk,rfl⟩⟩
   rw [h4] at hany
   have:=Ai (n:=n) (r:=ops.size - y) (B:=B.at m lh w []) (Q:=QI B l rec W1 lh0 m0 Q) hF hS hE hxs (uF (ops.toList.take y).toArray xs (bT xs 0) xs 0) h7 h8 h5' (lh0:=lh) (m0:=m) (fun sl' lh' m' a' w' fuel g1 g2 g3 g4=>by
    refine tC (ops.size - y) y fuel _ a' w' g4 h9 ?_
    have:=kh (n:=n) (ops:=ops) (Q:=QI B l rec W1 lh0 m0 Q) hF hS hE hY (ops.toList.drop y) its y sl' lh' m' g a' w' (Q .normal) (fun j=>by simp) hits g3 (hs.step g1 g2) (fun sl' lh' m' g' a' w' h1 h3=>⟨.normal,sl',lh',m',g',rfl,h1,h3⟩)
    simpa using this) y (Array.replicate ops.size false) sl _ m a { w with drawn:=w.drawn+1 } (by simp) (fun i _=>by simp [Array.getElem?_replicate]; split <;> rfl) (hcl ops) ⟨hs.vs,hs.df,((hs.hh.rebase []).deads _).drew _⟩ hext hany
   rwa [show y+(ops.size - y)=ops.size by omega] at this
  ·cases hc
 ·cases hc
theorem yaw (hF:jd F) (hS:∀ f,(S f).Ok P f) (hE:∀ t ∈ eqs,cB P t) (hY:YS B F n P l rec W1 lh0 m0 Y):∀ (c:Code) (s:gE) (sl:List ak) (lh:List ap) (m:aD) (g:Option Ex) (a:Act) (w:World) (Q:IQ),
 iE P eqs c=some s->IR B l rec W1 lh0 m0 m sl lh g a w->ju B.w0 S l Y s sl lh g Q->c.wpIn F n P (QI B l rec W1 lh0 m0 Q) a w:=by
 intro c
 induction c with
 | skip=>intro s sl lh m g a w Q hc hs hv; cases hc; exact wpIn_skip ⟨.normal,sl,lh,m,g,rfl,hs,hv⟩
 | label t=>intro s sl lh m g a w Q hc hs hv; cases hc; exact wpIn_label ⟨.normal,sl,lh,m,g,rfl,hs,hv⟩
 | region id ops dr =>
   intro s sl lh m g a w Q hc hs hv
   cases dr with
   | false =>
     simp only [iE,Option.map_eq_some_iff] at hc
     obtain ⟨xs,hxs,rfl⟩:=hc
     refine wpIn_region ?_
     have:=kh (n:=n) (ops:=ops) (Q:=QI B l rec W1 lh0 m0 Q) hF hS hE hY ops.toList xs 0 sl lh m g a w (Q .normal) (by simp) hxs hv hs (fun sl' lh' m' g' a' w' h1 h3=>⟨.normal,sl',lh',m',g',rfl,h1,h3⟩)
     rwa [List.range_eq_range',← Array.length_toList]
   | true =>
     simp only [iE] at hc
     split at hc
     ·simp only [Option.map_eq_some_iff] at hc
      obtain ⟨ds,hds,rfl⟩:=hc
      exact pD (B:=B.at m lh w []) hF hS hE hds ⟨hs.vs,hs.df,hs.hh.rebase []⟩ hv (fun sl' lh' m' a' w' h1 h2 h3=>⟨.normal,sl',lh',m',g,rfl,hs.step h1 h2,h3⟩)
     ·simp only [Option.map_eq_some_iff] at hc
      obtain ⟨⟨ds,its⟩,hds,rfl⟩:=hc
      exact vk hF hS hE hY hds hs hv
 | seq x y ihx ihy =>
   intro s sl lh m g a w Q hc hs hv
   simp only [iE] at hc
   split at hc
   ·rename_i sx sy hx hy
    cases hc
    refine wpIn_seq (wpIn_mono (ihx sx sl lh m g a w _ hx hs hv) fun e a' w' hq=>?_)
    obtain ⟨ex,sl',lh',m',g',rfl,h1,h3⟩:=hq
    cases ex with
    | normal=>exact ihy sy sl' lh' m' g' a' w' Q hy h1 h3
    | exit i=>exact ⟨.exit i,sl',lh',m',g',rfl,h1,h3⟩
    | ret=>exact ⟨.ret,sl',lh',m',g',rfl,h1,h3⟩
   ·cases hc
 | cond c x y ihx ihy =>
   intro s sl lh m g a w Q hc hs hv
   simp only [iE] at hc
   split at hc
   ·rename_i sx sy hx hy
    cases hc
    simp only [ju] at hv
    have ha:=aP hs.vs c
    split at hv
    ·rename_i t ht
     rw [ht] at ha
     exact wpIn_cond_split (gF ha) (fun e=>ihx sx sl lh m g a w Q hx hs (hv.1 e)) (fun e=>ihy sy sl lh m g a w Q hy hs (hv.2 e))
    ·exact hv.elim
   ·cases hc
 | block id x ih =>
   intro s sl lh m g a w Q hc hs hv
   simp only [iE,Option.map_eq_some_iff] at hc
   obtain ⟨sx,hx,rfl⟩:=hc
   refine wpIn_block (wpIn_mono (ih sx sl lh m g a w _ hx hs hv) fun e a' w' hq=>?_)
   obtain ⟨ex,sl',lh',m',g',rfl,h1,h3⟩:=hq
   cases ex with
   | normal=>exact ⟨.normal,sl',lh',m',g',rfl,h1,h3⟩
   | exit i =>
     simp only [Qa,Exit.inBlock]
     simp only [tN] at h3
     split at h3
     ·rename_i e; rw [if_pos e]; exact ⟨.normal,sl',lh',m',g',rfl,h1,h3⟩
     ·rename_i e; rw [if_neg e]; exact ⟨.exit i,sl',lh',m',g',rfl,h1,h3⟩
   | ret=>exact ⟨.ret,sl',lh',m',g',rfl,h1,h3⟩
 | loop x ih =>
   intro s sl lh m g a w Q hc hs hv
   simp only [iE,Option.map_eq_some_iff] at hc
   obtain ⟨sx,hx,rfl⟩:=hc
   simp only [ju] at hv
   obtain ⟨ι,shs,shl,shg,μ,i0,rfl,rfl,rfl,hr⟩:=hv
   refine lH (fun k a w=>∃ i m',IR B l rec W1 lh0 m0 m' (shs i) (shl i) (shg i) a w/\μ i=k) ⟨_,i0,m,hs,rfl⟩ fun k a w hI=>?_
   obtain ⟨i,m',hi,rfl⟩:=hI
   refine wpIn_mono (ih sx (shs i) (shl i) m' (shg i) a w _ hx hi (hr i)) fun e a' w' hq=>?_
   obtain ⟨ex,sl',lh',m2,g',rfl,h1,h3⟩:=hq
   cases ex with
   | normal =>
     obtain ⟨i',rfl,rfl,rfl,hlt⟩:=h3
     exact ⟨_,hlt,i',m2,h1,rfl⟩
   | exit j=>exact ⟨.exit j,sl',lh',m2,g',rfl,h1,h3⟩
   | ret=>exact ⟨.ret,sl',lh',m2,g',rfl,h1,h3⟩
 | exit id=>intro s sl lh m g a w Q hc hs hv; cases hc; exact wpIn_exit ⟨.exit id,sl,lh,m,g,rfl,hs,hv⟩
 | ret=>intro s sl lh m g a w Q hc hs hv; cases hc; exact wpIn_ret ⟨.ret,sl,lh,m,g,rfl,hs,hv⟩
 | scope x ih =>
   intro s sl lh m g a w Q hc hs hv
   simp only [iE,Option.map_eq_some_iff] at hc
   obtain ⟨sx,hx,rfl⟩:=hc
   exact iH (fun t a w ⟨ex,_,_,_,_,h,_⟩=>by cases ex <;> cases h) (ih sx sl lh m g a w Q hx hs hv)
 | _=>intro s sl lh m g a w Q hc; cases hc
end it
def resV (tmps:Array Value):ResultVar->Sem Value
 | .tmp t=>pure (tmps.getD t undef)
 | .cell b t=>do loadVar t (← asAddr (tmps.getD b undef))
def qW:List Value->Value
 | [v]=>v
 | vs=>.tuple vs.toArray
theorem rG {fn:Func} {tmps:Array Value} {w:World} {vs:List Value} (h:(fn.results.toList.mapM (resV tmps)).run P w=.ok vs w):(results fn tmps).run P w=.ok (qW vs) w:=by
 have e0:results fn tmps=(do let vs ← fn.results.mapM (resV tmps); pure (if h:vs.size=1 then vs[0] else .tuple vs)):=by
  unfold results
  congr 2
 have h2:(fn.results.mapM (resV tmps)).run P w=.ok vs.toArray w:=by
  rw [Array.mapM_eq_mapM_toList]
  show (do pure (← fn.results.toList.mapM (resV tmps)).toArray:Sem (Array Value)).run P w=_
  rw [ac h]; rfl
 rw [e0,ac h2]
 match vs with
 | []=>rfl
 | [v]=>rfl
 | v::u::l=>simp [qW]
def j6 (P : Program) (eqs : List TypeId) (its : List gk) : Prop := ∀ it ∈ its, ∃ fn, P.funcs[it.f]? = some fn /\ (fn.name == "runtime.NumGoroutine") = false /\ o0 P eqs fn = some (it.ntmps, it.body)
theorem mH:∀ {its:List gk} {f:FuncId} {it:gk},zH its f=some it->it ∈ its/\it.f=f
 | [],_,_,h=>by cases h
 | x::l,f,it,h=>by
   simp only [zH] at h
   split at h
   ·rename_i e; cases h; exact ⟨List.mem_cons_self,e.symm⟩
   ·exact ⟨List.mem_cons_of_mem _ (mH h).1,(mH h).2⟩
theorem v6 {m:aD}:∀ (ps:List Nat) (sl xs:List ak) (us:Array Value) (vs:List Value),aw m sl us.toList->aw m xs vs->xs.length=ps.length ->
 aw m (jX sl ps xs) ((ps.zip vs).foldl (fun t (p,v)=>t.setIfInBounds p v) us).toList
 | [],sl,xs,us,vs,h,_,_=>by cases xs <;> simpa [jX] using h
 | p::ps,sl,[],us,vs,_,_,hl=>by cases hl
 | p::ps,sl,x::xs,us,vs,h,hx,hl=>by
   simp only [aw] at hx
   obtain ⟨u,us',rfl,h1,h2⟩:=hx
   simp only [jX,List.zip_cons_cons,List.foldl_cons]
   exact v6 ps _ xs _ us' (by rw [Array.toList_setIfInBounds]; exact iV p h h1) h2 (by simpa using hl)
theorem SR.step {m m':aD} {sl sl':List ak} {lh lh':List ap} {a a':Act} {w w':World} (h:SR B m sl lh a w) (hs:im (B.at m lh w a.defers) m' sl' lh' a' w'):SR B m' sl' lh' a' w'/\KeepsOthers w w':=by
 obtain ⟨h1,h2⟩:=h.2.2.unbase hs.2.2
 exact ⟨⟨hs.1,by rw [hs.2.1]; exact mn h2 h.2.1,h1⟩,h2⟩
def sn (F:Fence) (w:World):Prop:=F.round=none ∨ ∃ l0 r0,F.round=some l0/\w.heap[l0]? = some (.loop r0)
theorem sn.keeps {F:Fence} {w w':World} (h:sn F w) (hk:KeepsOthers w w'):sn F w' :=
 h.imp_right fun ⟨l0,r0,h1,h2⟩=>⟨l0,r0,h1,hk.same _ _ h2 rfl⟩
theorem yE {its:List gk} (hS:∀ f,(S f).Ok P f) (hE:∀ t ∈ eqs,cB P t) (hI:j6 P eqs its):∀ (c:Code) (F:Fence) (n nb:Nat) (B:cN) (s:fB) (sl:List ak) (lh:List ap) (m:aD) (a:Act) (w:World) (Q:Ex->List ak->List ap->Prop),
 jd F->sn F w->cA P eqs its c=some s->SR B m sl lh a w->bO B.w0 S nb s sl lh Q->c.wpIn F n P (QC B nb lh m w Q) a w:=by
 have hSS:∀ f,(S f).Sound P f:=fun f=>(hS f).sound
 intro c
 induction c with
 | skip=>intro F n nb B s sl lh m a w Q hF hr hc hs hv; cases hc; exact wpIn_skip ⟨.normal,sl,lh,m,rfl,hs,lL.refl _ _ _,.refl _,hv⟩
 | label l=>intro F n nb B s sl lh m a w Q hF hr hc hs hv; cases hc; exact wpIn_label ⟨.normal,sl,lh,m,rfl,hs,lL.refl _ _ _,.refl _,hv⟩
 | region id ops dr =>
   intro F n nb B s sl lh m a w Q hF hr hc hs hv
   cases dr with
   | false =>
     simp only [cA,Option.map_eq_some_iff] at hc
     obtain ⟨xs,hxs,rfl⟩:=hc
     refine wpIn_region ?_
     have:=mC (n:=n) (ops:=ops) (B:=B.at m lh w a.defers) (Q:=QC B nb lh m w Q) hF hSS hE [] ops.toList xs 0 sl lh m a w (Q .normal) (by simp) hxs hv ⟨hs.1,rfl,hs.2.2.rebase _⟩ (fun sl' lh' m' a' w' h1 h2 h3=>⟨.normal,sl',lh',m',rfl,(hs.step h1).1,h2.toN nb,(hs.step h1).2,h3⟩)
     rw [List.append_nil] at this
     rwa [List.range_eq_range',← Array.length_toList]
   | true =>
     simp only [cA] at hc
     split at hc
     ·rename_i t ht
      cases hc
      exact Ba (B:=B.at m lh w a.defers) hF hS hE ht ⟨hs.1,rfl,hs.2.2.rebase _⟩ hv (fun sl' lh' m' a' w' h1 h2 h3=>⟨.normal,sl',lh',m',rfl,(hs.step h1).1,h2.toN nb,(hs.step h1).2,h3⟩)
     ·split at hc
      ·rename_i t ht
       cases hc
       exact B4 (B:=B.at m lh w a.defers) hF hS hE ht ⟨hs.1,rfl,hs.2.2.rebase _⟩ hv (fun sl' lh' m' a' w' h1 h2 h3=>⟨.normal,sl',lh',m',rfl,(hs.step h1).1,h2.toN nb,(hs.step h1).2,h3⟩)
      simp only [Option.map_eq_some_iff] at hc
      obtain ⟨ds,hds,rfl⟩:=hc
      exact pD (B:=B.at m lh w a.defers) hF hS hE hds ⟨hs.1,rfl,hs.2.2.rebase _⟩ hv (fun sl' lh' m' a' w' h1 h2 h3=>⟨.normal,sl',lh',m',rfl,(hs.step h1).1,h2.toN nb,(hs.step h1).2,h3⟩)
 | seq x y ihx ihy =>
   intro F n nb B s sl lh m a w Q hF hr hc hs hv
   simp only [cA] at hc
   split at hc
   ·rename_i sx sy hx hy
    cases hc
    refine wpIn_seq (wpIn_mono (ihx F n nb B sx sl lh m a w _ hF hr hx hs hv) fun e a' w' hq=>?_)
    obtain ⟨ex,sl',lh',m',rfl,h1,h2,hk,h3⟩:=hq
    cases ex with
    | normal=>exact wpIn_mono (ihy F n nb B sy sl' lh' m' a' w' Q hF (hr.keeps hk) hy h1 h3) fun e a'' w''=>QC.of h2 hk fun _ _ _ h=>h
    | exit i=>exact ⟨.exit i,sl',lh',m',rfl,h1,h2,hk,h3⟩
    | ret=>exact ⟨.ret,sl',lh',m',rfl,h1,h2,hk,h3⟩
   ·cases hc
 | cond c x y ihx ihy =>
   intro F n nb B s sl lh m a w Q hF hr hc hs hv
   simp only [cA] at hc
   split at hc
   ·rename_i sx sy hx hy
    cases hc
    simp only [bO] at hv
    have ha:=aP hs.1 c
    split at hv
    ·rename_i t ht
     rw [ht] at ha
     exact wpIn_cond_split (gF ha) (fun e=>ihx F n nb B sx sl lh m a w Q hF hr hx hs (hv.1 e)) (fun e=>ihy F n nb B sy sl lh m a w Q hF hr hy hs (hv.2 e))
    ·exact hv.elim
   ·cases hc
 | block id x ih =>
   intro F n nb B s sl lh m a w Q hF hr hc hs hv
   simp only [cA,Option.map_eq_some_iff] at hc
   obtain ⟨sx,hx,rfl⟩:=hc
   refine wpIn_block (wpIn_mono (ih F n nb B sx sl lh m a w _ hF hr hx hs hv) fun e a' w' hq=>?_)
   obtain ⟨ex,sl',lh',m',rfl,h1,h2,hk,h3⟩:=hq
   cases ex with
   | normal=>exact ⟨.normal,sl',lh',m',rfl,h1,h2,hk,h3⟩
   | exit i =>
     simp only [Qa,Exit.inBlock]
     simp only [tw] at h3
     split at h3
     ·rename_i e; rw [if_pos e]; exact ⟨.normal,sl',lh',m',rfl,h1,h2,hk,h3⟩
     ·rename_i e; rw [if_neg e]; exact ⟨.exit i,sl',lh',m',rfl,h1,h2,hk,h3⟩
   | ret=>exact ⟨.ret,sl',lh',m',rfl,h1,h2,hk,h3⟩
 | loop x ih =>
   intro F n nb B s sl lh m a w Q hF hr hc hs hv
   simp only [cA,Option.map_eq_some_iff] at hc
   obtain ⟨sx,hx,rfl⟩:=hc
   simp only [bO] at hv
   obtain ⟨ι,shs,shl,μ,i0,h0,hrd⟩:=hv
   have sub:∀ {m:aD} {sl sl1:List ak} {lh lh1:List ap} {a:Act} {w:World},Sub nb sl lh sl1 lh1->SR B m sl lh a w->∃ m1,SR B m1 sl1 lh1 a w/\lL nb lh m lh1 m1:=fun {m sl sl1 lh lh1 a w} h1 h2=>by
    obtain ⟨m1,g1,g2⟩:=h1.rel (B:={ B with ds:=a.defers }) (a:=a) (w:=w) (m:=m) ⟨h2.1,rfl,h2.2.2.withDs _⟩
    exact ⟨m1,⟨g1.1,h2.2.1,g1.2.2.noDs⟩,g2⟩
   obtain ⟨m1,hs1,he1⟩:=sub h0 hs
   refine lH (fun k a w'=>∃ i m',SR B m' (shs i) (shl i) a w'/\lL nb lh m (shl i) m'/\KeepsOthers w w'/\μ i=k) ⟨_,i0,m1,hs1,he1,.refl _,rfl⟩ fun k a w1 hI=>?_
   obtain ⟨i,m',hi,he,hk,rfl⟩:=hI
   refine wpIn_mono (ih F n nb B sx (shs i) (shl i) m' a w1 _ hF (hr.keeps hk) hx hi (hrd i)) fun e a' w' hq=>?_
   obtain ⟨ex,sl',lh',m2,rfl,h1,h2,hk2,h3⟩:=hq
   cases ex with
   | normal =>
     obtain ⟨i',hsub,hlt⟩:=h3
     obtain ⟨m3,hs3,he3⟩:=sub hsub h1
     exact ⟨_,hlt,i',m3,hs3,(he.trans h2).trans he3,hk.trans hk2,rfl⟩
   | exit j=>exact ⟨.exit j,sl',lh',m2,rfl,h1,he.trans h2,hk.trans hk2,h3⟩
   | ret=>exact ⟨.ret,sl',lh',m2,rfl,h1,he.trans h2,hk.trans hk2,h3⟩
 | exit id=>intro F n nb B s sl lh m a w Q hF hr hc hs hv; cases hc; exact wpIn_exit ⟨.exit id,sl,lh,m,rfl,hs,lL.refl _ _ _,.refl _,hv⟩
 | ret=>intro F n nb B s sl lh m a w Q hF hr hc hs hv; cases hc; exact wpIn_ret ⟨.ret,sl,lh,m,rfl,hs,lL.refl _ _ _,.refl _,hv⟩
 | scope x ih =>
   intro F n nb B s sl lh m a w Q hF hr hc hs hv
   simp only [cA,Option.map_eq_some_iff] at hc
   obtain ⟨sx,hx,rfl⟩:=hc
   exact iH (fun l a w ⟨ex,_,_,_,h,_⟩=>by cases ex <;> cases h) (ih F n nb B sx sl lh m a w Q hF hr hx hs hv)
 | rangeFunc gop ps asg body iha ihb =>
   intro F n nb B s sl lh m a w Q hF hr hc hs hv
   simp only [cA] at hc
   split at hc
   ·rename_i sa sb hca hcb
    ·cases hc
     simp only [bO] at hv
     have hg:=aP hs.1 gop
     split at hv
     ·rename_i f ys hfn
      rw [hfn] at hg
      simp only [vrel,aw] at hg
      obtain ⟨us,lb,hg,hus,hys⟩:=hg
      obtain rfl:us=#[]:=by apply Array.toList_inj.1; simpa using hus
      split at hv
      ·rename_i it hit
       obtain ⟨hmem,rfl⟩:=mH hit
       obtain ⟨fn,hf,hnm,hci⟩:=hI it hmem
       unfold o0 at hci
       split at hci
       ·rename_i _ _ cb hbody hres
        simp only [Option.map_eq_some_iff,Prod.mk.injEq] at hci
        obtain ⟨si,hsi,hnt,hsb⟩:=hci
        subst hsb
        refine wpIn_rangeFunc ?_
        intro fn0 hfn0
        let F0:Fence:={ F with round:=none }
        have hF0:jd F0:=⟨hF.fn,hF.depth,hF.alive⟩
        obtain ⟨l,mark,D0,rec,W1,hrec,henter,hL1,hkeep1,hH1,hlw,hmark⟩:∃ (l:Nat) (mark:List Deferred) (D0:Nat) (rec:LoopState->Option Code->Loop) (W1:World),rec=(fun st pe=>{ state:=st,pending:=pe,fn:=fn0,tmps:=a.tmps,params:=ps,assign:=asg,body:=body,defers:=D0 })/\(Instr.enterLoop fn0 a.tmps ps asg body F.round).run P w=.ok (l,mark) W1/\W1.heap[l]? = some (.loop (rec .ready none))/\KeepsOthers w W1/\aW B m lh W1/\w.heap.size<=l/\(∀ w'',KB l W1 w''->KeepsOthers w w''->iD B (mark++a.defers) w''):=by
         rcases hr with hro | ⟨l0,r0,hro,hr0⟩
         ·refine ⟨w.heap.size+1,[{ target:=.collected w.heap.size,args:=#[] }],w.heap.size,_,(w.alloc (.deferred (some []))).alloc (.loop { state:=.ready,pending:=none,fn:=fn0,tmps:=a.tmps,params:=ps,assign:=asg,body:=body,defers:=w.heap.size }),rfl,?_,?_,(KeepsOthers.alloc _ _).trans (KeepsOthers.alloc _ _),(hs.2.2.junk _).junk _,by omega,?_⟩
          ·rw [hro]; exact run_enterLoop_outer _ _ _ _ _
          ·have:=World.alloc_heap_new (w.alloc (.deferred (some []))) (.loop { state:=.ready,pending:=none,fn:=fn0,tmps:=a.tmps,params:=ps,assign:=asg,body:=body,defers:=w.heap.size }); rwa [World.size_alloc] at this
          ·intro w'' hkb hk
           have hK1:=(KeepsOthers.alloc (w.alloc (.deferred (some []))) (.loop { state:=.ready,pending:=none,fn:=fn0,tmps:=a.tmps,params:=ps,assign:=asg,body:=body,defers:=w.heap.size })).same _ _ (World.alloc_heap_new w (.deferred (some []))) rfl
           refine ⟨_,rfl,hkb.same _ _ (by omega) hK1 rfl,⟨hs.2.2.fsize,hs.2.2.size⟩,hs.2.1.old (fun o ho=>?_),mn hk hs.2.1⟩
           have:=(Array.getElem?_eq_some_iff.1 ho).1; omega
         ·refine ⟨w.heap.size,[],r0.defers,_,w.alloc (.loop { state:=.ready,pending:=none,fn:=fn0,tmps:=a.tmps,params:=ps,assign:=asg,body:=body,defers:=r0.defers }),rfl,?_,World.alloc_heap_new _ _,KeepsOthers.alloc _ _,hs.2.2.junk _,Nat.le_refl _,fun w'' _ hk=>mn hk hs.2.1⟩
          rw [hro]; exact run_enterLoop_inner hr0 _ _ _ _ _
        have hle0:B.w0.heap.size<=l:=Nat.le_trans hs.2.2.size hlw
        have hlef:B.wf.heap.size<=l:=Nat.le_trans hs.2.2.fsize hlw
        refine ⟨l,mark,W1,{ target:=.fn (.func it.f) lb,args:=#[.func (.yield l) #[] #[]] },W1,it.f,
         #[.func (.yield l) #[] #[]]++lb,W1,henter,?_,fun f' _=>hF.fn f',?_,(fun e=>by rw [hF.depth] at e; cases e),?_⟩
        ·simp only [resolve,hg]
         simp [go_sem]
        ·simp only [invoke,callFunc]
         rw [ac (a:=P) (w':=W1) rfl,hf]
         simp only [hnm,hbody,Option.isNone_some,Bool.false_eq_true,if_false]
         rfl
        ·-- THE ITERATOR
         have hY:YS B F0 (n - 1) P l rec W1 lh m (fun xs lh K=>xs.length=ps.toList.length/\bO B.w0 S lh.length sa (jX sl ps.toList xs) lh (rU (fun sl lh'=>bO B.w0 S lh.length sb sl lh' fun x _ lh=>K x lh) fun _ _ _=>False)):=by
          intro m' lh' w' args vs K hh he hrc hkb hvs hy
          obtain ⟨hlen,hy⟩:=hy
          refine ⟨fn0,_,asg,body,by have:=run_yield (P:=P) (args:=vs.toArray) hrc (by rw [hrec]; have:=cG hvs; simp; simp at hlen; omega); rw [hrec] at this; exact this,?_⟩
          refine roundIn_of_wpIn hfn0 ?_
          have hsr:SR B m' (jX sl ps.toList args) lh' { tmps:=(ps.zip vs.toArray).foldl (fun t (p,v)=>t.setIfInBounds p v) a.tmps,defers:=[] } w':=by
           refine ⟨?_,trivial,hh⟩
           have:=v6 ps.toList sl args a.tmps vs (b6 he.1 _ _ hs.1) hvs hlen
           rw [← Array.foldl_toList,Array.toList_zip]; simpa using this
          have hFr:jd (F0.inRound l):=⟨hF.fn,hF.depth,hF.alive⟩
          refine wpIn_mono (iha (F0.inRound l) (n - 1 - 1) lh'.length B sa _ lh' m' _ w' _ hFr (.inr ⟨l,_,rfl,hrc⟩) hca hsr hy) fun e a1 w1 hq=>?_
          obtain ⟨ex,sl1,lh1,m1,rfl,h1,h2,hk1,h3⟩:=hq
          cases ex with
          | normal =>
            have hr1:w1.heap[l]? = some (.loop (rec .ready none)):=hk1.same _ _ hrc rfl
            refine ⟨_,run_beginRound hr1 (by rw [hrec]),?_⟩
            have hh1:=h1.2.2.putObj hr1 rfl hlef hle0 (.loop { rec .ready none with state:=.busy })
            have hkb1:=(hkb.keeps hk1).put (.loop { rec .ready none with state:=.busy })
            have hm1:iD B a1.defers (w1.putObj (l) (.loop { rec .ready none with state:=.busy })):=h1.2.1.keeps fun D o hD=>(World.putObj_heap_other (fun e=>by subst e; rw [hr1] at hD; cases hD)).trans hD
            have hlt1:l < w1.heap.size:=(Array.getElem?_eq_some_iff.1 hr1).1
            have hr2:(w1.putObj (l) (.loop { rec .ready none with state:=.busy })).heap[l]? = some (.loop { rec .ready none with state:=.busy }):=World.putObj_heap_same hlt1
            refine wpIn_mono (ihb (F0.inRound l) (n - 1 - 1) lh'.length B sb sl1 lh1 m1 a1 _ _ hFr (.inr ⟨l,_,rfl,hr2⟩) hcb ⟨h1.1,hm1,hh1⟩ h3) fun e a2 w2 hq=>?_
            obtain ⟨ex,sl2,lh2,m2,rfl,k1,k2,hk2,k3⟩:=hq
            have hr3:=hk2.same _ _ hr2 rfl
            have hend:∀ jump:Option Code,(Instr.endRound (l) jump).run P w2=.ok (.bool jump.isNone) (w2.putObj (l) (.loop (rec (if jump.isNone then .ready else .done) jump))):=fun jump=>by
             have:=run_endRound (P:=P) jump hr3
             rw [hrec] at this ⊢; exact this
            have hlt3:l < w2.heap.size:=(Array.getElem?_eq_some_iff.1 hr3).1
            have fin:∀ x,∃ x' m'' lh'',Ending.returned (.bool (DJ x).isNone)=.returned (.bool (DJ x').isNone)/\aW B m'' lh'' (w2.putObj (l) (.loop (rec (if (DJ x).isNone then .ready else .done) ((DJ x).map jmp))))/\gJ lh' m' lh'' m''/\yaG (l) rec (DJ x') (w2.putObj (l) (.loop (rec (if (DJ x).isNone then .ready else .done) ((DJ x).map jmp))))/\KB (l) W1 (w2.putObj (l) (.loop (rec (if (DJ x).isNone then .ready else .done) ((DJ x).map jmp))))/\(K x lh2->K x' lh''):=fun x =>
             ⟨x,m2,lh2,rfl,k1.2.2.putObj hr3 rfl hlef hle0 _,AT hh (h2.trans k2),World.putObj_heap_same hlt3,(hkb1.keeps hk2).put _,id⟩
            cases ex with
            | normal=>obtain ⟨x',m'',lh'',e1,e2,e3,e4,e5,e6⟩:=fin .normal; exact ⟨_,_,hend none,x',m'',lh'',e1,e2,e3,e4,e5,e6 k3⟩
            | exit i=>obtain ⟨x',m'',lh'',e1,e2,e3,e4,e5,e6⟩:=fin (.exit i); exact ⟨_,_,hend (some (.exit i)),x',m'',lh'',e1,e2,e3,e4,e5,e6 k3⟩
            | ret=>obtain ⟨x',m'',lh'',e1,e2,e3,e4,e5,e6⟩:=fin .ret; exact ⟨_,_,hend (some .ret),x',m'',lh'',e1,e2,e3,e4,e5,e6 k3⟩
          | exit i=>exact h3.elim
          | ret=>exact h3.elim
         have hir:IR B (l) rec W1 lh m m (iw (l)::ys++List.replicate (it.ntmps - (ys.length+1)) .any) lh none { tmps:=(#[Value.func (.yield (l)) #[] #[]]++lb)++Array.replicate (fn.ntmps - (#[Value.func (.yield (l)) #[] #[]]++lb).size) undef,defers:=[] } W1:=by
          refine ⟨?_,rfl,hH1,gJ.refl _ _,hL1,KB.refl _ _⟩
          have hl:=cG hys
          simp only [Array.toList_append,Array.toList_replicate,Array.size_append]
          refine dw ?_ ?_
          ·simp only [aw]
           exact ⟨_,_,rfl,by simp only [iw,vrel],hys⟩
          ·have e:fn.ntmps - (#[Value.func (.yield (l)) #[] #[]].size+lb.size)=it.ntmps - (ys.length+1):=by
            have:lb.size=ys.length:=by simpa using hl
            rw [hnt,this]; simp; omega
           rw [e]; exact fo _ _
         refine callsIn_of_wp (F:=F0) hf hbody (hF.fn _) (wpIn_mono (yaw hF0 hS hE hY cb it.body _ lh m none _ W1 _ hsi hir (hv _)) fun e a' w' hq=>?_) rfl
         obtain ⟨ex,sl',lh',m',g,rfl,hi,hq⟩:=hq
         have hres':(results fn a'.tmps).run P w'=.ok (qW []) w':=by
          refine rG ?_
          rw [hres]; rfl
         have hlt:l < w'.heap.size:=(Array.getElem?_eq_some_iff.1 hi.rc).1
         have hfin:∀ x,Q x sl lh'->∃ o,QC B nb lh m w Q (Qa x) { a with defers:=mark++a.defers } (w'.putObj (l) o)/\o=.loop { rec (if g.isNone then .ready else .done) (g.map jmp) with state:=.exhausted }:=fun x hx=>by
          have hk:KeepsOthers w (w'.putObj (l) (.loop { rec (if g.isNone then .ready else .done) (g.map jmp) with state:=.exhausted })):=by
           have hkb:=hi.kb.put (.loop { rec (if g.isNone then .ready else .done) (g.map jmp) with state:=.exhausted })
           exact ⟨Nat.le_trans hkeep1.size hkb.size,fun k o hk ho=>hkb.same k o (fun e=>by have:=(Array.getElem?_eq_some_iff.1 hk).1; omega) (hkeep1.same k o hk ho) ho⟩
          refine ⟨_,⟨x,sl,lh',m',rfl,⟨b6 hi.ext.1 _ _ hs.1,?_,hi.hh.putObj hi.rc rfl hlef hle0 _⟩,hi.ext.toN nb,hk,hx⟩,rfl⟩
          exact hmark _ (hi.kb.put _) hk
         have hendl:=run_endLoop (P:=P) hi.rc (by rw [hrec]; cases g <;> simp)
         have main:ahf Q sl .normal sl' lh' g->rangePost F n P (l) (QC B nb lh m w Q) { a with defers:=mark++a.defers } (.returned (qW [])) w':=fun hq=>by
          refine ⟨_,_,hendl,?_⟩
          cases g with
          | none =>
            obtain ⟨o,h1,rfl⟩:=hfin .normal hq
            rw [hrec] at h1 ⊢; exact h1
          | some x =>
            obtain ⟨o,h1,rfl⟩:=hfin x hq
            rw [hrec] at h1 ⊢
            cases x with
            | normal=>exact wpIn_skip h1
            | exit i=>exact wpIn_exit h1
            | ret=>exact wpIn_ret h1
         cases ex with
         | normal=>exact ⟨hi.df,_,hres',main hq⟩
         | ret=>exact ⟨hi.df,_,hres',main (by cases g <;> exact hq)⟩
         | exit i=>exact hq.elim
       ·cases hci
      ·exact hv.elim
     ·exact hv.elim
   ·cases hc
 | _=>intro F n nb B s sl lh m a w Q hF hr hc; cases hc
end
end Go.Sx
namespace Go.Sx
inductive yy where
 | tmp (t:Nat)
 | cell (t:Nat) (n:Option Nat)
structure aI where
 ntmps:Nat
 res:List yy
 body:fB
def kV (P:Program):List ResultVar->Option (List yy)
 | []=>some []
 | .tmp t::l=>(kV P l).map (.tmp t::·)
 | .cell a t::l=>match nM P t,kV P l with
   | some n,some l=>some (.cell a n::l)
   | _,_=>none
def dO (P:Program) (eqs:List TypeId) (its:List gk) (fn:Func):Option aI :=
 match fn.body with
 | some c=>match cA P eqs its c,kV P fn.results.toList with
   | some s,some r=>some ⟨fn.ntmps,r,s⟩
   | _,_=>none
 | none=>none
def ib (w0:World) (sl:List ak) (lh:List ap):List yy->(List ak->Prop)->Prop
 | [],K=>K []
 | .tmp t::l,K=>ib w0 sl lh l fun vs=>K (sl.getD t .any::vs)
 | .cell t n::l,K=>match sl.getD t .any with
   | .ptr (some p)=>match n with
     | none=>∃ v,ld w0 lh p=some v/\ib w0 sl lh l fun vs=>K (v::vs)
     | some n=>∃ cs,lds w0 lh p n=some cs/\ib w0 sl lh l fun vs=>K (.agg cs::vs)
   | _=>False
def oR:List ak->ak
 | [v]=>v
 | vs=>.tup vs
def amL (w0:World) (res:List yy) (K:ak->List ap->Prop):Ex->List ak->List ap->Prop
 | .normal,sl,lh=>ib w0 sl lh res fun vs=>K (oR vs) lh
 | .ret,sl,lh=>ib w0 sl lh res fun vs=>K (oR vs) lh
 | .exit _,_,_=>False
def E6 (w0:World) (S:FuncId->bE) (f:aI) (args:List ak) (lh:List ap) (K:ak->List ap->Prop):Prop :=
 bO w0 S lh.length f.body (args++List.replicate (f.ntmps - args.length) .any) lh (amL w0 f.res K)
def Ret (nb:Nat) (K:ak->List ap->Prop) (r:ak) (lh:List ap):Prop:=∃ r1 lh1,Sub nb [r] lh [r1] lh1/\K r1 lh1
mutual
theorem I3:∀ a:ak,ren id a=a
 | .int ..=>by simp only [ren]
 | .bool ..=>by simp only [ren]
 | .str ..=>by simp only [ren]
 | .ptr none=>by simp only [ren]
 | .ptr (some (.g _))=>by simp only [ren]
 | .ptr (some (.l k off))=>by simp only [ren,id]
 | .slice none _ _=>by simp only [ren]
 | .slice (some (.g _)) _ _=>by simp only [ren]
 | .slice (some (.l k off)) _ _=>by simp only [ren,id]
 | .fn f xs ys=>by simp only [ren]; rw [o9 xs,o9 ys]
 | .agg cs=>by simp only [ren]; rw [o9 cs]
 | .tup cs=>by simp only [ren]; rw [o9 cs]
 | .raw _=>by simp only [ren]
 | .any=>by simp only [ren]
theorem o9:∀ l:List ak,tW id l=l
 | []=>by simp only [tW]
 | a::l=>by simp only [tW]; rw [I3 a,o9 l]
end
mutual
theorem z7 {p q:Nat->Prop} (h:∀ k,p k->q k):∀ a:ak,jz p a->jz q a
 | .int ..,_=>by simp only [jz]
 | .bool ..,_=>by simp only [jz]
 | .str ..,_=>by simp only [jz]
 | .ptr none,_=>by simp only [jz]
 | .ptr (some (.g _)),_=>by simp only [jz]
 | .ptr (some (.l k off)),hp=>by simp only [jz] at *; exact h k hp
 | .slice none _ _,_=>by simp only [jz]
 | .slice (some (.g _)) _ _,_=>by simp only [jz]
 | .slice (some (.l k off)) _ _,hp=>by simp only [jz] at *; exact h k hp
 | .fn f xs ys,hp=>by simp only [jz] at *; exact ⟨iZ h xs hp.1,iZ h ys hp.2⟩
 | .agg cs,hp=>by simp only [jz] at *; exact iZ h cs hp
 | .tup cs,hp=>by simp only [jz] at *; exact iZ h cs hp
 | .raw _,_=>by simp only [jz]
 | .any,_=>by simp only [jz]
theorem iZ {p q:Nat->Prop} (h:∀ k,p k->q k):∀ l:List ak,ir p l->ir q l
 | [],_=>by simp only [ir]
 | a::l,hp=>by simp only [ir] at *; exact ⟨z7 h a hp.1,iZ h l hp.2⟩
end
theorem qz {p:Nat->Prop}:∀ {l:List ak},ir p l->kk p id l l
 | [],_=>by simp only [kk]
 | a::l,h=>by simp only [ir] at h; simp only [kk]; exact ⟨.inr ⟨h.1,(I3 a).symm⟩,qz h.2⟩
mutual
theorem B9 {m:aD} {p:Nat->Prop} (h:∀ k b,m k=some b->p k):∀ (a:ak) (v:Value),vrel m a v->jz p a
 | .int ..,_,_=>by simp only [jz]
 | .bool ..,_,_=>by simp only [jz]
 | .str ..,_,_=>by simp only [jz]
 | .ptr none,_,_=>by simp only [jz]
 | .ptr (some (.g _)),_,_=>by simp only [jz]
 | .ptr (some (.l k off)),_,hv=>by simp only [vrel,dl] at hv; obtain ⟨_,_,b,hb,_⟩:=hv; simp only [jz]; exact h k b hb
 | .slice none _ _,_,_=>by simp only [jz]
 | .slice (some (.g _)) _ _,_,_=>by simp only [jz]
 | .slice (some (.l k off)) _ _,_,hv=>by simp only [vrel,dl] at hv; obtain ⟨_,_,b,hb,_⟩:=hv; simp only [jz]; exact h k b hb
 | .fn _ xs ys,_,hv=>by simp only [vrel] at hv; obtain ⟨us,vs,_,h2,h3⟩:=hv; simp only [jz]; exact ⟨e9 h xs _ h2,e9 h ys _ h3⟩
 | .agg cs,_,hv=>by simp only [vrel] at hv; obtain ⟨vs,_,h2⟩:=hv; simp only [jz]; exact e9 h cs _ h2
 | .tup cs,_,hv=>by simp only [vrel] at hv; obtain ⟨vs,_,h2⟩:=hv; simp only [jz]; exact e9 h cs _ h2
 | .raw _,_,_=>by simp only [jz]
 | .any,_,_=>by simp only [jz]
theorem e9 {m:aD} {p:Nat->Prop} (h:∀ k b,m k=some b->p k):∀ (l:List ak) (vs:List Value),aw m l vs->ir p l
 | [],_,_=>by simp only [ir]
 | a::l,_,hv=>by simp only [aw] at hv; obtain ⟨u,us,_,h2,h3⟩:=hv; simp only [ir]; exact ⟨B9 h a u h2,e9 h l us h3⟩
end
def WF (lh:List ap):Prop:=∀ (k:Nat) (cs:List ak) (ty:TypeId),lh[k]? = some (.cells cs ty)->ir (fun j=>j < lh.length) cs
theorem aW.wf {B:cN} {m:aD} {lh:List ap} {w:World} (h:aW B m lh w):WF lh:=fun k cs ty hk=>by
 obtain ⟨b,vs,_,hvs,_⟩:=h.loc k cs ty hk
 exact e9 (fun j b hb=>Classical.byContradiction fun hn=>by rw [h.dom j (by omega)] at hb; cases hb) cs _ hvs
section
variable {P:Program} {S:FuncId->bE} {eqs:List TypeId}
theorem kd {B:cN} {m:aD} {sl:List ak} {lh:List ap} {a:Act} {w:World} (hs:SR B m sl lh a w):∀ (rs:List ResultVar) (xs:List yy) (K:List ak->Prop),kV P rs=some xs->ib B.w0 sl lh xs K ->
 ∃ ys vs,aw m ys vs/\K ys/\(rs.mapM (resV a.tmps)).run P w=.ok vs w
 | [],xs,K,hc,hv=>by simp only [kV,Option.some.injEq] at hc; subst hc; exact ⟨[],[],by simp [aw],hv,rfl⟩
 | .tmp t::rs,xs,K,hc,hv=>by
   simp only [kV,Option.map_eq_some_iff] at hc
   obtain ⟨l,hl,rfl⟩:=hc
   simp only [ib] at hv
   obtain ⟨ys,vs,h1,h2,h3⟩:=kd hs rs l _ hl hv
   refine ⟨_,a.tmps.getD t undef::vs,?_,h2,?_⟩
   ·simp only [aw]; exact ⟨_,_,rfl,by simpa using lc hs.1 t undef,h1⟩
   ·simp only [List.mapM_cons]; rw [ac (a:=a.tmps.getD t undef) (w':=w) rfl,ac h3]; rfl
 | .cell b t::rs,xs,K,hc,hv=>by
   simp only [kV] at hc
   split at hc
   ·rename_i n l hn hl
    cases hc
    simp only [ib] at hv
    have hb:vrel m (sl.getD b .any) (a.tmps.getD b undef):=by simpa using lc hs.1 b undef
    split at hv
    ·rename_i p hp
     rw [hp] at hb
     obtain ⟨q,hq,hpq⟩:=g8 hb
     obtain ⟨d,hd,hag⟩:=i6 hn
     cases n with
     | none =>
       obtain ⟨x,hx,hv⟩:=hv
       obtain ⟨ad,v,rfl,hcell,hr⟩:=yP hs.2.2 hpq hx
       obtain ⟨ys,vs,h1,h2,h3⟩:=kd hs rs l _ hl hv
       refine ⟨_,v::vs,by simp only [aw]; exact ⟨_,_,rfl,hr,h1⟩,h2,?_⟩
       rcases hag with ⟨_,k,hk,_⟩ | ⟨h4,_⟩
       ·cases hk
       ·simp only [List.mapM_cons]
        rw [ac (a:=v) (w':=w) (by
         simp only [resV]; rw [hq,ac (a:=ad) (w':=w) rfl]; unfold loadVar; rw [ac (iY hd w),h4]; exact t8 hcell)]
        rw [ac h3]; rfl
     | some n =>
       obtain ⟨x,hx,hv⟩:=hv
       obtain ⟨ad,us,rfl,hrun,hr⟩:=qG (P:=P) hs.2.2 hpq hx
       obtain ⟨ys,vs,h1,h2,h3⟩:=kd hs rs l _ hl hv
       refine ⟨_,.agg us::vs,by simp only [aw]; exact ⟨_,_,rfl,by simp only [vrel]; exact ⟨_,rfl,hr⟩,h1⟩,h2,?_⟩
       rcases hag with ⟨h4,k,hk,h5⟩ | ⟨_,hk⟩
       ·cases hk
        simp only [List.mapM_cons]
        rw [ac (a:=Value.agg us) (w':=w) (by
         simp only [resV]; rw [hq,ac (a:=ad) (w':=w) rfl]; unfold loadVar; rw [ac (iY hd w),h4]; simp only [if_true]; rw [ac (bW h5 w),ac hrun]; rfl)]
        rw [ac h3]; rfl
       ·cases hk
    ·exact hv.elim
   ·cases hc
theorem wo {B:cN} {w:World} {D:Nat} {o:Obj}:∀ {ds:List Deferred},(∀ d' ∈ ds,d'.target ≠ .collected D)->iD B ds w->iD B ds (w.putObj D o)
 | [],_,_=>trivial
 | d::ds,hn,⟨D',h1,h2,h3,h4,h5⟩=>⟨D',h1,(World.putObj_heap_other (fun e=>by subst e; exact hn d List.mem_cons_self (by rw [h1]))).trans h2,h3,h4,wo (fun d' hd=>hn d' (List.mem_cons_of_mem _ hd)) h5⟩
theorem mW {its : List gk} {f : FuncId} {fn : Func} {sf : aI} {Sp : bE} (hS : ∀ g, (S g).Ok P g) (hE : ∀ t ∈ eqs, cB P t) (hI : j6 P eqs its) (hf : P.funcs[f]? = some fn) (hn : (fn.name == "runtime.NumGoroutine") = false) (hc : dO P eqs its fn = some sf)
 (h:∀ w0 args lh K,WF lh->ir (fun j=>j < lh.length) args->Sp w0 args lh K->E6 w0 S sf args lh (Ret lh.length K)):Sp.Sound P f:=by
 intro B m lh w args vs K hrel hargs hsp
 have hv:=h B.w0 args lh K hrel.wf (e9 (fun j b hb=>Classical.byContradiction fun hn=>by rw [hrel.dom j (by omega)] at hb; cases hb) args vs hargs) hsp
 unfold dO at hc
 split at hc
 ·rename_i c hb
  split at hc
  ·rename_i s rs hs hr
   cases hc
   refine ⟨⟨fn,hf,hn,by rw [hb]; rfl⟩,?_⟩
   refine (callsIn_wide (n:=0)).1 (callsIn_of_wp_marks hf hb trivial (wpIn_mono (yE hS hE hI c Fence.wide 0 lh.length B s _ lh m _ w _ G1 (.inl rfl) hs ?_ hv) fun e a w' hq=>?_))
   ·refine ⟨?_,trivial,hrel⟩
    simp only [Array.toList_append,Array.toList_replicate,List.size_toArray]
    rw [cG hargs]
    exact dw (by simpa using hargs) (fo _ _)
   ·obtain ⟨x,sl,lh',m',rfl,h1,h2,_,h3⟩:=hq
    have key:ib B.w0 sl lh' rs (fun vs=>Ret lh.length K (oR vs) lh')->∀ (ds:List Deferred) (w1:World),iD B ds w1->SR B m' sl lh' { a with defers:=[] } w1->LeavesInM Fence.wide 0 P fn a.tmps (fun e w'=>∃ v r m' lh',e=.returned v/\vrel m' r v/\gJ lh m lh' m'/\aW B m' lh' w'/\K r lh') ds .returning w1:=fun hv ds=>by
     induction ds with
     | nil =>
       intro w1 _ hs1
       obtain ⟨ys,us,g1,g2,g3⟩:=kd hs1 fn.results.toList rs _ hr hv
       obtain ⟨r1,lh1,hsub,hK⟩:=g2
       have hone:vrel m' (oR ys) (qW us):=by
        match ys,g1 with
        | [],g1=>simp only [aw] at g1; subst g1; simp [oR,qW,vrel,aw]
        | [y],g1=>simp only [aw] at g1; obtain ⟨u,us',rfl,g4,rfl⟩:=g1; exact g4
        | y::z::l,g1 =>
          have g1':=g1
          simp only [aw] at g1'
          obtain ⟨u,us1,rfl,_,u2,us2,rfl,_⟩:=g1'
          simp only [oR,qW,vrel]
          exact ⟨_,rfl,by simpa using g1⟩
       obtain ⟨m1,hs2,he1⟩:=hsub.rel (B:={ B with ds:=[] }) (a:=⟨#[qW us],[]⟩) (m:=m') (w:=w1) ⟨by simp only [aw]; exact ⟨_,_,rfl,hone,rfl⟩,rfl,hs1.2.2.withDs _⟩
       have hr1:=hs2.1
       simp only [aw] at hr1
       obtain ⟨u,us',e,g5,_⟩:=hr1
       simp at e
       exact ⟨_,rG g3,_,r1,m1,lh1,rfl,by rw [e.1]; exact g5,AT hrel (h2.trans he1),hs2.2.2.noDs,hK⟩
     | cons d ds ih =>
       intro w1 hm hs1
       obtain ⟨D,rfl,hD,hb,hd,hm'⟩:=hm
       refine ⟨by simp,.inl ⟨D,_,rfl,run_takeDeferred hD,ih _ ?_ ⟨hs1.1,trivial,hs1.2.2.putObj hD rfl hb.1 hb.2 _⟩⟩⟩
       refine wo hd hm'
    cases x with
    | normal=>exact key h3 a.defers w' h1.2.1 ⟨h1.1,trivial,h1.2.2⟩
    | exit i=>exact h3.elim
    | ret=>exact key h3 a.defers w' h1.2.1 ⟨h1.1,trivial,h1.2.2⟩
  ·cases hc
 ·cases hc
end
end Go.Sx
namespace Go.Sx
def aaK:bE:=fun _ _ _ _=>False
section
variable {P:Program} {eqs:List TypeId}
theorem Nk (f:FuncId):aaK.Ok P f:=⟨fun _ _ _ _ _ _ _ _ _ h=>h.elim,fun _ _ _ _ _ _ h=>h.elim,fun _ _ _ _ h=>h.elim⟩
end
theorem KG {lh l:List ap} {K:ak->List ap->Prop} {r:ak} (h:jz (fun k=>k < lh.length) r) (hc:WF lh) (hK:K r lh):Ret lh.length K r (lh++l):=by
 refine ⟨r,lh,.inr ⟨id,fun _ _=>rfl,Nat.le_refl _,fun k hk _=>(List.getElem?_append_left hk).symm,?_,fun k cs ty hk=>⟨cs,?_,?_⟩,fun _ _ _ _ h=>h⟩,hK⟩
 ·exact qz (by simp only [ir]; exact ⟨z7 (fun k hk=>.inl hk) r h,trivial⟩)
 ·rw [id,List.getElem?_append_left (List.getElem?_eq_some_iff.1 hk).1]; exact hk
 ·exact qz (iZ (fun k hk=>.inl hk) cs (hc k cs ty hk))
end Go.Sx
namespace Go.Dx
open Go.Sx
inductive V where
 | int (k:IntKind) (n:Int)
 | bool (b:Bool)
 | kb (b:Bool)
 | str (s:ByteArray)
 | agg (cs:List V)
 | tup (vs:List V)
 | fn (f:FuncId) (xs ys:List V)
 | sl (n:Nat) (f:Nat->List V)
 | pd (cs:List V)
 | pl (k off:Nat)
 | pe (k i j:Nat)
 | ss (k off n c:Nat)
 | gs (k n:Nat)
 | ns
 | np
 | any
 | gd (b:Bool) (v:V)
 | yl (l:Nat)
 | go (k off n:Nat)
 | sq (n m:Nat) (f:Nat->List V)
inductive O where
 | cells (cs:List V) (ty:TypeId)
 | gl (esz n:Nat) (f:Nat->List V) (ty:TypeId)
 | dead
 | hid
abbrev bp:=List (Nat × V)
abbrev ah:=Nat->List V
structure RD where
 ps:List Nat
 asg:fB
 body:fB
 e0:bp
 l:Nat
inductive Ay where
 | s (c:fB)
 | i (c:gE) (rd:RD)
inductive T (α:Type) where
 | ret (a:α)
 | br (b:Bool) (x y:T α)
 | ob (b:Bool) (x:T α)
 | obi (c d:Bool) (x:T α)
 | obp (p:Prop) (x:T α)
 | obq (a b:List V) (x:T α)
 | fail (why:Nat)
 | loop (fr:Nat × Nat) (body:Ay) (e:bp) (h:List O) (g:Option Ex) (k:Ex->bp->List O->Option Ex->T α)
 | all (f:Nat->T α)
 | und (x y:T α)
 | asm (p:Prop) (x:T α)
def iq:bp->Nat->V
 | [],_=>.any
 | (d,v)::e,i=>cond (Nat.beq i d) v (iq e i)
def fq {α:Type}:List α->Nat->Option α
 | [],_=>none
 | a::_,0=>some a
 | _::l,i+1=>fq l i
def wP {α:Type}:List α->Nat->α->List α
 | [],_,_=>[]
 | _::l,0,b=>b::l
 | a::l,i+1,b=>a::wP l i b
def yZ {α:Type}:List α->α->List α
 | [],b=>[b]
 | a::l,b=>a::yZ l b
def uJ {α:Type}:List α->List α->List α
 | [],b=>b
 | a::l,b=>a::uJ l b
def bD {α:Type}:List α->Nat
 | []=>0
 | _::l=>bD l+1
def pR {α:Type}:Nat->List α->Option (List α)
 | 0,l=>some l
 | _+1,[]=>none
 | n+1,_::l=>pR n l
def uy {α:Type}:Nat->List α->Option (List α)
 | 0,_=>some []
 | _+1,[]=>none
 | n+1,a::l=>match uy n l with
   | some r=>some (a::r)
   | none=>none
def B3 {α:Type} (l:List α) (off n:Nat):Option (List α) :=
 match pR off l with
 | some r=>uy n r
 | none=>none
def oP {α:Type}:List α->Nat->List α->Option (List α)
 | cs,0,[]=>some cs
 | [],0,_::_=>none
 | _::cs,0,x::xs=>match oP cs 0 xs with
   | some r=>some (x::r)
   | none=>none
 | [],_+1,_=>none
 | c::cs,off+1,xs=>match oP cs off xs with
   | some r=>some (c::r)
   | none=>none
def Eh:ak->V
 | .int k n=>.int k n
 | .bool b=>.kb b
 | .str s=>.str s
 | .ptr none=>.np
 | .slice none 0 0=>.ns
 | .fn (.func f) [] []=>.fn f [] []
 | _=>.any
def cW (e:bp):eS->V
 | .t i=>iq e i
 | .k a=>Eh a
def V.one:V->Bool
 | .agg _ | .tup _ | .any | .gd .. | .yl _=>false
 | _=>true
def V.fc:V->Bool
 | .agg _ | .tup _ | .fn .. | .gd .. | .yl _=>false
 | _=>true
def V.cells:V->List V
 | .agg cs=>cs
 | v=>[v]
def V.flat:V->Bool
 | .agg cs=>cs.all V.one
 | v=>v.one
section
variable {α:Type}
def gD (ctx:Bool) (v:V) (K:V->T α):T α :=
 match v with
 | .gd b v=>.obi ctx b (K v)
 | v=>K v
def rZ (ctx:Bool) (e:bp):List eS->(List V->T α)->T α
 | [],K=>K []
 | x::xs,K=>gD ctx (cW e x) fun v=>rZ ctx e xs fun vs=>K (v::vs)
def rY (ctx:Bool) (e:bp):Option eS->(Option V->T α)->T α
 | none,K=>K none
 | some x,K=>gD ctx (cW e x) fun v=>K (some v)
def u5 (ctx:Bool) (p:Prop) [Decidable p] (x:T α):T α:=.obi ctx (decide p) x
def eY (pl:Option Nat) (h:List O) (o:O) (K:Nat->List O->T α):T α :=
 match pl with
 | none=>K (bD h) (yZ h o)
 | some p=>match fq h p with
   | some .dead=>K p (wP h p o)
   | _=>.fail 1
def oC (ctx:Bool) (e:bp):List (Nat × Nat × eS)->List V->(List V->T α)->T α
 | [],z,K=>K z
 | (off,n,x)::ps,z,K=>gD ctx (cW e x) fun v =>
   cond (v.flat && Nat.beq (bD v.cells) n) (match oP z off v.cells with
    | some z=>oC ctx e ps z K
    | none=>.fail 2) (.fail 3)
def Oc (ctx:Bool) (op:BinOp) (k:IntKind) (a b:Int) (K:V->T α):T α :=
 match op with
 | .add=>K (.int k (k.wrap (a+b)))
 | .sub=>K (.int k (k.wrap (a - b)))
 | .mul=>K (.int k (k.wrap (a * b)))
 | .quo=>u5 ctx (b ≠ 0) (K (.int k (k.wrap (a.tdiv b))))
 | .rem=>u5 ctx (b ≠ 0) (K (.int k (a.tmod b)))
 | .eql=>K (.bool (a == b))
 | .neq=>K (.bool (a != b))
 | .lss=>K (.bool (decide (a < b)))
 | .leq=>K (.bool (decide (a<=b)))
 | .gtr=>K (.bool (decide (b < a)))
 | .geq=>K (.bool (decide (b<=a)))
 | .and=>K (.int k (bits .and k a b))
 | .or=>K (.int k (bits .or k a b))
 | .xor=>K (.int k (bits .xor k a b))
 | .shl=>u5 ctx (0<=b) (K (.int k (k.wrap (a * 2 ^ min b.toNat k.bits))))
 | .shr=>u5 ctx (0<=b) (K (.int k (a.fdiv (2 ^ min b.toNat k.bits))))
 | _=>.fail 4
def y4 (ctx:Bool) (op:BinOp) (x y:V) (K:V->T α):T α :=
 match x,y with
 | .int k a,.int k' b=>match decEq k k' with
   | .isTrue _=>Oc ctx op k a b K
   | .isFalse _=>.fail 5
 | .str a,.str b=>match op with
   | .eql=>K (.bool (a.toList == b.toList))
   | .neq=>K (.bool !(a.toList == b.toList))
   | .add=>u5 ctx (((a.size+b.size:Nat):Int)<=IntKind.i64.max) (K (.str (a++b)))
   | _=>.fail 6
 | _,_=>.fail 7
def lV:V->Option Bool
 | .bool b=>some b
 | .kb b=>some b
 | _=>none
mutual
def mrg (c:Bool):V->V->Option V
 | .int k a,.int k' b=>match decEq k k' with
   | .isTrue _=>some (.int k (cond c a b))
   | .isFalse _=>none
 | .bool a,y=>match lV y with
   | some b=>some (.bool (cond c a b))
   | none=>none
 | .kb a,y=>match lV y with
   | some b=>some (.bool (cond c a b))
   | none=>none
 | .str a,.str b=>some (.str (cond c a b))
 | .agg xs,.agg ys=>match GO c xs ys with
   | some zs=>some (.agg zs)
   | none=>none
 | _,_=>none
def GO (c:Bool):List V->List V->Option (List V)
 | [],[]=>some []
 | x :: xs,y::ys=>match mrg c x y with
   | some z=>match GO c xs ys with
     | some zs=>some (z::zs)
     | none=>none
   | none=>none
 | _,_=>none
end
def A8:List V->List V->Option Bool
 | [],[]=>some true
 | .int k a::xs,.int k' b::ys=>match decEq k k' with
   | .isTrue _=>match A8 xs ys with
     | some r=>some (a == b && r)
     | none=>none
   | .isFalse _=>none
 | _,_=>none
def mmV (isMax:Bool):V->List V->Option V
 | x,[]=>some x
 | .int k a,.int k' b::xs=>match decEq k k' with
   | .isTrue _=>mmV isMax (.int k (if isMax then max a b else min a b)) xs
   | .isFalse _=>none
 | _,_=>none
def kO (ctx:Bool) (x:Option V) (y d:Nat) (K:Nat->T α):T α :=
 match x with
 | none=>K d
 | some (.int _ i)=>u5 ctx (0<=i/\i<=y) (K i.toNat)
 | _=>.fail 8
def Tc (m l a b:Nat):Nat:=cond (Nat.beq m l) a b
def kS (esz:Nat) (l:List V):Bool:=Nat.beq (bD l) esz && l.all V.one
def cq:Nat->(Nat->Bool)->Bool
 | 0,_=>true
 | n+1,p=>cq n p && p n
def BG (h:List O) (esz:Nat):V->Option (Nat × (Nat->List V) × Bool)
 | .ns=>some (0,fun _=>[],true)
 | .sl n f=>some (n,f,cq n fun i=>kS esz (f i))
 | .gs k n=>match fq h k with
   | some (.gl e n' f _)=>cond (Nat.beq e esz) (some (n,f,Nat.ble n n')) none
   | _=>none
 | .ss k off n _=>match fq h k with
   | some (.cells cs _)=>match B3 cs off (n * esz) with
     | some ds=>cond (ds.all V.one) (match n with
       | 1=>some (1,fun _=>ds,true)
       | n=>some (n,fun i=>(ds.drop (i * esz)).take esz,true)) none
     | none=>none
   | _=>none
 | .go k off n=>match fq h k with
   | some (.gl e n' f _)=>cond (Nat.beq e esz) (some (n,fun i=>f (off+i),Nat.ble (off+n) n')) none
   | _=>none
 | _=>none
def bA (n:Nat) (f g:Nat->List V) (i:Nat):List V:=cond (Nat.blt i n) (f i) (g (i - n))
abbrev CF (α:Type):=FuncId->List V->List O->(V->List O->T α)->T α
def abu (pl:Option Nat) (h:List O) (ty:TypeId) (esz bytes:Nat) (s x:V) (K:V->List O->T α):T α :=
 match BG h esz x with
 | none=>.fail 10
 | some (m,g,q)=>.ob q (match s with
   | .ns=>.ob (decide (m * bytes<=140737488355328) && !Nat.beq bytes 0) (eY pl h (.gl esz m g ty) fun p h=>K (.gs p m) h)
   | .gs k n=>match fq h k with
     | some (.gl e n' f ty')=>cond (Nat.beq e esz && Nat.beq ty ty') (.ob (decide (n<=n'/\(n+m) * bytes<=140737488355328) && !Nat.beq bytes 0)
        (eY pl (wP h k .hid) (.gl esz (n+m) (bA n f g) ty) fun p h=>K (.gs p (n+m)) h)) (.fail 11)
     | _=>.fail 12
   | .ss k off n c=>match BG h esz (.ss k off n c) with
     | some (_,f,_)=>match n,c with
       | 0,0=>match fq h k with
         | some (.cells [] ty')=>cond (Nat.beq ty ty' && Nat.beq off 0) (.ob (decide (m * bytes<=140737488355328) && !Nat.beq bytes 0) (eY pl (wP h k .hid) (.gl esz m g ty) fun p h=>K (.gs p m) h)) (.fail 15)
         | _=>.fail 16
       | _,_=>match x with
         | .go _ _ _=>.br (Nat.beq m 0) (.ob (Nat.ble n c) (K (.ss k off n c) h)) (.ob (decide (c < n+m/\(n+m) * bytes<=140737488355328) && !Nat.beq bytes 0) (eY pl h (.gl esz (n+m) (bA n f g) ty) fun p h=>K (.gs p (n+m)) h))
         | _=>.ob (decide (c < n+m/\(n+m) * bytes<=140737488355328) && !Nat.beq bytes 0) (eY pl h (.gl esz (n+m) (bA n f g) ty) fun p h=>K (.gs p (n+m)) h)
     | none=>.fail 13
   | _=>.fail 14)
def ldV (h:List O):V->Option V
 | .pl k off=>match fq h k with
   | some (.cells cs _)=>fq cs off
   | _=>none
 | .pe k i j=>match fq h k with
   | some (.gl _ _ f _)=>fq (f i) j
   | _=>none
 | .pd cs=>fq cs 0
 | _=>none
def Sy (h:List O) (n:Nat):V->Option (List V)
 | .pl k off=>match fq h k with
   | some (.cells cs _)=>B3 cs off n
   | _=>none
 | .pe k i j=>match fq h k with
   | some (.gl _ _ f _)=>B3 (f i) j n
   | _=>none
 | .pd cs=>uy n cs
 | _=>none
def GN (l:List V) (i:Nat):V:=match fq l i with
 | some v=>v
 | none=>.any
def Vb (cs:List V) (j:Nat) (xs:List V):Nat->Nat->List V
 | _,0=>[]
 | t,m+1=>cond (Nat.ble j t && Nat.blt t (j+bD xs)) (GN xs (t - j)) (GN cs t)::Vb cs j xs (t+1) m
def wrE (e:Nat) (cs:List V) (j:Nat) (xs:List V):Option (List V):=cond (Nat.ble (j+bD xs) e) (some (Vb cs j xs 0 e)) none
def Tr (e:Nat) (f:Nat->List V) (i j:Nat) (xs:List V):Nat->List V:=fun i'=>cond (Nat.beq i' i) (Vb (f i) j xs 0 e) (f i')
def Uq (h:List O) (xs:List V):V->Option (List O)
 | .pl k off=>match fq h k with
   | some (.cells cs ty)=>match oP cs off xs with
     | some cs=>some (wP h k (.cells cs ty))
     | none=>none
   | _=>none
 | .pe k i j=>match fq h k with
   | some (.gl e n f ty)=>cond (Nat.ble (j+bD xs) e) (some (wP h k (.gl e n (Tr e f i j xs) ty))) none
   | _=>none
 | _=>none
def I2:Nat->List V
 | 0=>[]
 | n+1=>.int .i64 0::I2 n
def TJ (ctx:Bool) (h:List O) (v:V) (x:T α):T α :=
 match v with
 | .pe k i _=>match fq h k with
   | some (.gl _ n _ _)=>u5 ctx (i < n) x
   | _=>.fail 17
 | _=>x
def yw (cf:CF α) (ctx:Bool) (pl:Option Nat) (op:jy) (e:bp) (h:List O) (K:V->List O->T α):T α :=
 match op with
 | .mov x=>gD ctx (cW e x) fun v=>K v h
 | .pick c a b=>gD ctx (cW e c) fun c=>match c with
   | .kb true=>gD ctx (cW e a) fun v=>K v h
   | .kb false=>gD ctx (cW e b) fun v=>K v h
   | .bool c=>gD (ctx && c) (cW e a) fun x=>gD (ctx && !c) (cW e b) fun y=>match mrg c x y with
     | some v=>K v h
     | none=>.br c (K x h) (K y h)
   | .tup _=>.obi ctx false (K .any h)
   | _=>.fail 20
 | .new ty z=>eY pl h (.cells (z.map Eh) ty) fun p h=>K (.pl p 0) h
 | .box ty x=>gD ctx (cW e x) fun v=>cond v.flat (eY pl h (.cells v.cells ty) fun p h=>K (.pl p 0) h) (.fail 21)
 | .agg z ps=>oC ctx e ps (z.map Eh) fun cs=>K (.agg cs) h
 | .bsl ty n z ps=>oC ctx e ps (z.map Eh) fun cs=>eY pl h (.cells cs ty) fun p h=>K (.ss p 0 n n) h
 | .ld a=>gD ctx (cW e a) fun a=>TJ ctx h a (match ldV h a with
   | some v=>K v h
   | none=>.fail 22)
 | .lds n a=>gD ctx (cW e a) fun a=>TJ ctx h a (match Sy h n a with
   | some cs=>K (.agg cs) h
   | none=>.fail 23)
 | .st n a x=>gD ctx (cW e a) fun a=>gD ctx (cW e x) fun v=>TJ ctx h a (cond (v.flat && Nat.beq (bD v.cells) n) (match Uq h v.cells a with
    | some h=>K (.tup []) h
    | none=>.fail 24) (.fail 25))
 | .nz x=>gD ctx (cW e x) fun v=>match v with
   | .pl k o=>K (.pl k o) h
   | .pe k i j=>K (.pe k i j) h
   | .pd cs=>K (.pd cs) h
   | .fn f a b=>K (.fn f a b) h
   | _=>.fail 26
 | .bin op x y=>gD ctx (cW e x) fun x=>gD ctx (cW e y) fun y=>y4 ctx op x y fun v=>K v h
 | .eqa neg n x y=>gD ctx (cW e x) fun x=>gD ctx (cW e y) fun y=>match x,y with
   | .agg xs,.agg ys=>match A8 xs ys with
     | some b=>cond (Nat.beq (bD xs) n) (K (.bool (if neg then !b else b)) h) (.fail 27)
     | none=>.fail 28
   | _,_=>.fail 29
 | .eqb neg x y=>gD ctx (cW e x) fun x=>gD ctx (cW e y) fun y=>match lV x,lV y with
   | some a,some b=>K (.bool (if neg then !(a == b) else a == b)) h
   | _,_=>.fail 30
 | .un op x=>gD ctx (cW e x) fun x=>match op,x with
   | .neg,.int k n=>K (.int k (k.wrap (0 - n))) h
   | .not,.bool b=>K (.bool !b) h
   | .not,.kb b=>K (.kb !b) h
   | _,_=>.fail 31
 | .conv k x=>gD ctx (cW e x) fun x=>match x with
   | .int _ n=>K (.int k (k.wrap n)) h
   | _=>.fail 32
 | .mkf f xs ys=>match f with
   | .func f=>rZ ctx e xs fun us=>rZ ctx e ys fun vs=>K (.fn f us vs) h
   | _=>.fail 33
 | .fa off x=>gD ctx (cW e x) fun x=>match x with
   | .pl k o=>K (.pl k (o+off)) h
   | .pe k i j=>K (.pe k i (j+off)) h
   | .pd cs=>match pR off cs with
     | some cs=>K (.pd cs) h
     | none=>.fail 34
   | _=>.fail 35
 | .fld off n x=>gD ctx (cW e x) fun x=>match x with
   | .agg cs=>match n with
     | some n=>match B3 cs off n with
       | some ds=>K (.agg ds) h
       | none=>.fail 36
     | none=>match fq cs off with
       | some v=>K v h
       | none=>.fail 37
   | _=>.fail 38
 | .iaA n esz x ix=>gD ctx (cW e x) fun x=>gD ctx (cW e ix) fun ix=>match x,ix with
   | .pl k o,.int _ i=>u5 ctx (0<=i/\i < n) (K (.pl k (o+i.toNat * esz)) h)
   | .pe k j o,.int _ i=>u5 ctx (0<=i/\i < n) (K (.pe k j (o+i.toNat * esz)) h)
   | .pd cs,.int _ i=>match pR (i.toNat * esz) cs with
     | some cs=>u5 ctx (0<=i/\i < n) (K (.pd cs) h)
     | none=>.fail 39
   | _,_=>.fail 40
 | .iaS esz x ix=>gD ctx (cW e x) fun x=>gD ctx (cW e ix) fun ix=>match x,ix with
   | .sl n f,.int _ i=>cond (Nat.beq (bD (f i.toNat)) esz) (u5 ctx (0<=i/\i < n) (K (.pd (f i.toNat)) h)) (.fail 41)
   | .ss k o n _,.int _ i=>u5 ctx (0<=i/\i < n) (K (.pl k (o+i.toNat * esz)) h)
   | .gs k n,.int _ i=>match fq h k with
     | some (.gl e n' _ _)=>cond (Nat.beq e esz) (u5 ctx (0<=i/\i < n/\n<=n') (K (.pe k i.toNat 0) h)) (.fail 42)
     | _=>.fail 43
   | .go k off n,.int _ i=>match fq h k with
     | some (.gl e n' _ _)=>cond (Nat.beq e esz) (u5 ctx (0<=i/\i < n/\off+n<=n') (K (.pe k (off+i.toNat) 0) h)) (.fail 42)
     | _=>.fail 43
   | .ns,.int _ i=>u5 ctx (0<=i/\i < (0:Int)) (K (.pd (I2 esz)) h)
   | _,_=>.fail 44
 | .ixA n esz sz x ix=>gD ctx (cW e x) fun x=>gD ctx (cW e ix) fun ix=>match x,ix with
   | .agg cs,.int _ i=>match sz with
     | some sz=>match B3 cs (i.toNat * esz) sz with
       | some ds=>u5 ctx (0<=i/\i < n) (K (.agg ds) h)
       | none=>.fail 45
     | none=>match fq cs (i.toNat * esz) with
       | some v=>u5 ctx (0<=i/\i < n) (K v h)
       | none=>.fail 46
   | _,_=>.fail 47
 | .ixS x ix=>gD ctx (cW e x) fun x=>gD ctx (cW e ix) fun ix=>match x,ix with
   | .str s,.int _ i=>u5 ctx (0<=i/\i < s.size) (K (.int .u8 ((s.data.toList.getD i.toNat 0).toNat:Int)) h)
   | _,_=>.fail 48
 | .len x=>gD ctx (cW e x) fun x=>match x with
   | .sl n _=>.asm (ctx=true->n<=9223372036854775807) (K (.int .i64 n) h)
   | .ss _ _ n _=>K (.int .i64 n) h
   | .gs _ n=>K (.int .i64 n) h
   | .ns=>K (.int .i64 0) h
   | .go _ _ n=>K (.int .i64 n) h
   | _=>.fail 49
 | .lenT x=>gD ctx (cW e x) fun x=>match x with
   | .str s=>K (.int .i64 s.size) h
   | _=>.fail 50
 | .lenA n=>K (.int .i64 n) h
 | .mm b x xs=>gD ctx (cW e x) fun x=>rZ ctx e xs fun xs=>match mmV b x xs with
   | some v=>K v h
   | none=>.fail 51
 | .ext x i=>gD ctx (cW e x) fun x=>match x with
   | .tup vs=>match fq vs i with
     | some v=>K v h
     | none=>.fail 52
   | _=>.fail 53
 | .slS esz x lo hi mx=>gD ctx (cW e x) fun x=>rY ctx e lo fun lo=>rY ctx e hi fun hi=>rY ctx e mx fun mx=>match x with
   | .sl n f=>match mx with
     | none=>cond (Nat.beq (bD (f 0)) esz) (kO ctx hi n n fun b=>kO ctx lo b 0 fun a=>K (.sl (b - a) (fun i=>f (a+i))) h) (.fail 19)
     | some _=>.fail 54
   | .gs k n=>match mx,lo with
     | none,none=>kO ctx hi n n fun b=>K (.gs k b) h
     | none,some lo=>match fq h k with
       | some (.gl e _ _ _)=>cond (Nat.beq e esz) (kO ctx hi n n fun b=>kO ctx (some lo) b 0 fun a=>K (.go k a (b - a)) h) (.fail 104)
       | _=>.fail 105
     | _,_=>.fail 55
   | .ss k o n c=>kO ctx mx c c fun m=>kO ctx hi m n fun b=>kO ctx lo b 0 fun a=>K (.ss k (Tc m a o (o+a * esz)) (b - a) (m - a)) h
   | .ns=>match mx with
     | none=>kO ctx hi 0 0 fun b=>kO ctx lo b 0 fun _=>K .ns h
     | some _=>.fail 56
   | _=>.fail 57
 | .slA n esz x lo hi mx=>gD ctx (cW e x) fun x=>rY ctx e lo fun lo=>rY ctx e hi fun hi=>rY ctx e mx fun mx=>match x with
   | .pl k o=>kO ctx mx n n fun m=>kO ctx hi m n fun b=>kO ctx lo b 0 fun a=>K (.ss k (Tc m a o (o+a * esz)) (b - a) (m - a)) h
   | _=>.fail 58
 | .slT x lo hi=>gD ctx (cW e x) fun x=>rY ctx e lo fun lo=>rY ctx e hi fun hi=>match x with
   | .str s=>kO ctx hi s.size s.size fun b=>kO ctx lo b 0 fun a=>K (.str (s.extract a b)) h
   | _=>.fail 59
 | .app ty esz bytes z s x=>gD ctx (cW e s) fun s=>gD ctx (cW e x) fun x=>cond (Nat.beq (bD z) esz) (abu pl h ty esz bytes s x K) (.fail 18)
 | .mks ty n cs=>eY pl h (.cells (cs.map Eh) ty) fun p h=>K (.ss p 0 n n) h
 | .call f xs=>rZ ctx e xs fun vs=>cf f vs h K
 | .callv x xs=>gD ctx (cW e x) fun x=>rZ ctx e xs fun vs=>match x with
   | .fn f a b=>cf f (uJ (uJ a vs) b) h K
   | _=>.fail 60
 | .isn neg x=>gD ctx (cW e x) fun x=>match x with
   | .ns=>K (.kb (!neg)) h
   | .ss ..=>K (.kb neg) h
   | .sl n _=>.und (.asm (n=0) (K (.kb (!neg)) h)) (K (.kb neg) h)
   | .gs _ n=>.und (.asm (n=0) (K (.kb (!neg)) h)) (K (.kb neg) h)
   | _=>.fail 100
 | .clr esz z x=>gD ctx (cW e x) fun x=>match x with
   | .go k off n=>match fq h k with
     | some (.gl e n' f ty)=>cond (Nat.beq e esz && kS e (z.map Eh)) (.ob (decide (0 < n/\off+n<=n')) (K (.tup []) (wP h k (.gl e n' (fun i=>cond (Nat.ble off i && Nat.blt i (off+n)) (z.map Eh) (f i)) ty)))) (.fail 101)
     | _=>.fail 102
   | _=>.fail 103
def jZ:jy->Bool
 | .new .. | .box .. | .bsl .. | .st .. | .app .. | .mks .. | .call .. | .callv .. | .clr ..=>false
 | _=>true
def dJ (e:bp) (d:Option Nat) (v:V):bp :=
 match d with
 | some d=>(d,v)::e
 | none=>e
def gB (b want:Bool):Bool:=match want with
 | true=>b
 | false=>!b
def fy (cf : CF α):List gC->bp->List O->(bp->List O->T α)->T α
 | [],e,h,K=>K e h
 | o :: rest,e,h,K =>
   match o.guard with
   | none=>yw cf true none o.op e h fun v h=>fy cf rest (dJ e o.dst v) h K
   | some (d,want) =>
     match iq e d with
     | .kb b=>match decEq b want with
       | .isTrue _=>yw cf true none o.op e h fun v h=>fy cf rest (dJ e o.dst v) h K
       | .isFalse _=>fy cf rest (dJ e o.dst (.tup [])) h K
     | .tup _=>fy cf rest (dJ e o.dst (.tup [])) h K
     | .int ..=>fy cf rest (dJ e o.dst (.tup [])) h K
     | .bool b=>match jZ o.op with
       | true=>yw cf (gB b want) none o.op e h fun v _=>fy cf rest (dJ e o.dst (.gd (gB b want) v)) h K
       | false=>.br (gB b want) (yw cf true none o.op ((d,.kb want)::e) h fun v h=>fy cf rest (dJ ((d,.kb want)::e) o.dst v) h K)
          (fy cf rest (dJ ((d,.kb (!want))::e) o.dst (.tup [])) h K)
     | .gd c v=>match lV v with
       | none=>match v with
         | .tup _=>fy cf rest (dJ e o.dst (.tup [])) h K
         | _=>.fail 62
       | some b=>match jZ o.op with
         | true=>yw cf (c && gB b want) none o.op e h fun v _=>fy cf rest (dJ e o.dst (.gd (c && gB b want) v)) h K
         | false=>.br (c && gB b want) (yw cf true none o.op ((d,.kb want)::e) h fun v h=>fy cf rest (dJ ((d,.kb want)::e) o.dst v) h K)
            (fy cf rest (dJ e o.dst (.tup [])) h K)
     | _=>.fail 61
end
def uL (k:Nat):List Nat->Bool
 | []=>false
 | x::l=>cond (Nat.beq k x) true (uL k l)
def Cv:List Nat->List Nat->Bool
 | [],_=>true
 | k::l,W=>uL k W && Cv l W
def Ht:List Nat->List Nat->Bool
 | [],_=>true
 | k::l,W=>!uL k W && Ht l W
def d6 (h:List O) (k:Nat):Bool :=
 match fq h k with
 | some (.cells ..)=>true
 | some (.gl ..)=>true
 | _=>false
def iG (h:List O):V->Option (List Nat)
 | .pl k _=>cond (d6 h k) (some [k]) none
 | .pe k _ _=>cond (d6 h k) (some [k]) none
 | .ss k _ _ _=>cond (d6 h k) (some [k]) none
 | .gs k _=>cond (d6 h k) (some [k]) none
 | .ns=>some []
 | _=>none
def Ek (h:List O) (e:bp) (n0:Nat):Aa->Option (List Nat)
 | .fresh r=>some [n0+r]
 | .slot s=>iG h (iq e s)
 | .load s off=>match iq e s with
   | .pl k o=>match ldV h (.pl k (o+off)) with
     | some v=>iG h v
     | none=>none
   | _=>none
def q9 (h:List O) (e:bp) (n0:Nat):List Aa->Option (List Nat)
 | []=>some []
 | x::l=>match Ek h e n0 x,q9 h e n0 l with
   | some a,some b=>some (uJ a b)
   | _,_=>none
def rh (h:List O) (e:bp) (n0:Nat):List gy->Option (List (List Nat))
 | []=>some []
 | d::l=>match q9 h e n0 d.ws,rh h e n0 l with
   | some a,some b=>some (a::b)
   | _,_=>none
def c8 (Ws:List (List Nat)) (i:Nat):List Nat:=match fq Ws i with
 | some l=>l
 | none=>[]
def lK (Ws:List (List Nat)):List Nat->List Nat
 | []=>[]
 | u::un=>uJ (c8 Ws u) (lK Ws un)
def ri (Ws:List (List Nat)):List gy->Nat->Bool
 | [],_=>true
 | d::l,i=>Ht (c8 Ws i) (lK Ws d.un) && ri Ws l (i+1)
def io (X:List Nat):List O->Nat->List O
 | [],_=>[]
 | o::h,k=>cond (uL k X) O.hid o::io X h (k+1)
def iB (X:List Nat) (h:List O):List O:=match X with
 | []=>h
 | _=>io X h 0
def kc (W:List Nat) (l:List O):List O->Nat->List O
 | [],_=>[]
 | o::h,k=>cond (uL k W) (match fq l k with
   | some o'=>o'
   | none=>o) o::kc W l h (k+1)
def CK (W:List Nat) (h l:List O):List O:=kc W l h 0
def tP (Ws:List (List Nat)) (Y:List Nat):List gy->Nat->Nat->Bool
 | [],_,_=>true
 | d::l,i,j=>cond (Nat.blt i j) ((match d.rk with
   | none=>true
   | some _=>Ht (c8 Ws i) Y || Cv (c8 Ws i) Y) && tP Ws Y l (i+1) j) true
def vH (Ws:List (List Nat)) (all:List gy):List gy->Nat->Bool
 | [],_=>true
 | d::l,j=>(tP Ws (c8 Ws j) all 0 j && tP Ws (lK Ws d.un) all 0 j) && vH Ws all l (j+1)
def undead:List O->List O
 | []=>[]
 | o::h=>(match o with
   | .dead=>.hid
   | o=>o)::undead h
def deads:Nat->List O
 | 0=>[]
 | n+1=>.dead::deads n
def opW (h:List O) (e:bp) (pl:Option Nat):jy->Option (List Nat)
 | .st _ a _=>iG h (cW e a)
 | .app _ _ _ _ s _=>match iG h (cW e s),pl with
   | some l,some p=>some (p::l)
   | _,_=>none
 | .new .. | .box .. | .bsl .. | .mks ..=>match pl with
   | some p=>some [p]
   | none=>none
 | .call .. | .callv ..=>some []
 | .clr ..=>none
 | _=>some []
def plL (pl:Option Nat) (l:List Nat):List Nat:=match pl with
 | some p=>p::l
 | none=>l
section
variable {α:Type}
abbrev CP (α:Type):=Bool->FuncId->List V->List O->(V->T α)->T α
def evM (cp:CP α) (Ws:List (List Nat)) (n0:Nat) (d:gy) (i:Nat) (e:bp) (h:List O) (K:V->List O->T α):T α :=
 match jZ d.o.op with
 | true=>yw (fun f vs h K=>cp false f vs h fun v=>K v h) true none d.o.op e (iB (lK Ws d.un) h) fun v _=>K v h
 | false=>match opW (iB (lK Ws d.un) h) e (d.rk.map (n0+·)) d.o.op with
   | none=>.fail 63
   | some l=>cond (Cv (plL (d.rk.map (n0+·)) l) (c8 Ws i)) (yw (fun f vs h K=>cp false f vs h fun v=>K v h) true (d.rk.map (n0+·)) d.o.op e (iB (lK Ws d.un) h) fun v l=>K v (CK (c8 Ws i) h l)) (.fail 64)
def eD (cp : CP α) (Ws:List (List Nat)) (n0:Nat):List gy->Nat->bp->List O->(bp->List O->T α)->T α
 | [],_,e,h,K=>K e h
 | d :: rest,i,e,h,K =>
   match d.o.guard with
   | none=>evM cp Ws n0 d i e h fun v h=>eD cp Ws n0 rest (i+1) (dJ e d.o.dst v) h K
   | some (g,want) =>
     match iq e g with
     | .kb b=>match decEq b want with
       | .isTrue _=>evM cp Ws n0 d i e h fun v h=>eD cp Ws n0 rest (i+1) (dJ e d.o.dst v) h K
       | .isFalse _=>eD cp Ws n0 rest (i+1) (dJ e d.o.dst (.tup [])) h K
     | .tup _=>eD cp Ws n0 rest (i+1) (dJ e d.o.dst (.tup [])) h K
     | .int ..=>eD cp Ws n0 rest (i+1) (dJ e d.o.dst (.tup [])) h K
     | .bool b=>match jZ d.o.op with
       | true=>yw (fun f vs h K=>cp false f vs h fun v=>K v h) (gB b want) none d.o.op e (iB (lK Ws d.un) h) fun v _=>eD cp Ws n0 rest (i+1) (dJ e d.o.dst (.gd (gB b want) v)) h K
       | false=>.br (gB b want) (evM cp Ws n0 d i ((g,.kb want)::e) h fun v h=>eD cp Ws n0 rest (i+1) (dJ ((g,.kb want)::e) d.o.dst v) h K)
          (eD cp Ws n0 rest (i+1) (dJ ((g,.kb (!want))::e) d.o.dst (.tup [])) h K)
     | .gd c v=>match lV v with
       | none=>match v with
         | .tup _=>eD cp Ws n0 rest (i+1) (dJ e d.o.dst (.tup [])) h K
         | _=>.fail 65
       | some b=>match jZ d.o.op with
         | true=>yw (fun f vs h K=>cp false f vs h fun v=>K v h) (c && gB b want) none d.o.op e (iB (lK Ws d.un) h) fun v _=>eD cp Ws n0 rest (i+1) (dJ e d.o.dst (.gd (c && gB b want) v)) h K
         | false=>.br (c && gB b want) (evM cp Ws n0 d i ((g,.kb want)::e) h fun v h=>eD cp Ws n0 rest (i+1) (dJ ((g,.kb want)::e) d.o.dst v) h K)
            (eD cp Ws n0 rest (i+1) (dJ e d.o.dst (.tup [])) h K)
     | _=>.fail 66
def tg (cp:CP α) (ds:List gy) (e:bp) (h:List O) (K:bp->List O->T α):T α :=
 match rh (undead h) e (bD h) ds with
 | none=>.fail 67
 | some Ws=>cond (ri Ws ds 0 && vH Ws ds ds 0) (eD cp Ws (bD h) ds 0 e (uJ (undead h) (deads (M3 ds))) K) (.fail 68)
def evL (ev:bp->List O->(Ex->bp->List O->T α)->T α):Nat->bp->List O->(Ex->bp->List O->T α)->T α
 | 0,_,_,_=>.fail 90
 | n+1,e,h,K=>ev e h fun x e h=>match x with
   | .normal=>evL ev n e h K
   | .exit i=>K (.exit i) e h
   | .ret=>K .ret e h
def UT (ev:bp->List O->Option Ex->(Ex->bp->List O->Option Ex->T α)->T α):Nat->bp->List O->Option Ex->(Ex->bp->List O->Option Ex->T α)->T α
 | 0,_,_,_,_=>.fail 91
 | n+1,e,h,g,K=>ev e h g fun x e h g=>match x with
   | .normal=>UT ev n e h g K
   | .exit i=>K (.exit i) e h g
   | .ret=>K .ret e h g
def oy:bp->List Nat->List V->bp
 | e,p::ps,x::xs=>oy ((p,x)::e) ps xs
 | e,_,_=>e
abbrev YV (α:Type):=List V->List O->(Ex->List O->T α)->T α
def Ho (l:Nat) (Y:YV α) (t:Nat) (d:Option Nat) (xs:List eS) (e:bp) (h:List O) (g:Option Ex) (R:bp->List O->Option Ex->T α):T α:=gD true (iq e t) fun v=>match g,v with
 | none,.yl l'=>.obq [.yl l'] [.yl l] (rZ true e xs fun vs=>Y vs h fun x h=>match x with
   | .normal=>R (dJ e d (.kb true)) h none
   | .exit i=>R (dJ e d (.kb false)) h (some (.exit i))
   | .ret=>R (dJ e d (.kb false)) h (some .ret))
 | _,_=>.fail 92
def cV (cf:CF α) (l:Nat) (Y:YV α):List lJ->bp->List O->Option Ex->(bp->List O->Option Ex->T α)->T α
 | [],e,h,g,K=>K e h g
 | .op o::rest,e,h,g,K=>fy cf [o] e h fun e h=>cV cf l Y rest e h g K
 | .yld t d xs::rest,e,h,g,K=>match g,iq e t with
   | none,.yl l'=>.obq [.yl l'] [.yl l] (rZ true e xs fun vs=>Y vs h fun x h=>match x with
     | .normal=>cV cf l Y rest (dJ e d (.kb true)) h none K
     | .exit i=>cV cf l Y rest (dJ e d (.kb false)) h (some (.exit i)) K
     | .ret=>cV cf l Y rest (dJ e d (.kb false)) h (some .ret) K)
   | _,_=>.fail 92
 | .yldG d want t dst xs::rest,e,h,g,K=>match iq e d with
   | .kb b=>match decEq b want with
     | .isTrue _=>Ho l Y t dst xs e h g fun e h g=>cV cf l Y rest e h g K
     | .isFalse _=>cV cf l Y rest (dJ e dst (.tup [])) h g K
   | .tup _=>cV cf l Y rest (dJ e dst (.tup [])) h g K
   | .int ..=>cV cf l Y rest (dJ e dst (.tup [])) h g K
   | .bool b=>.br (gB b want) (Ho l Y t dst xs ((d,.kb want)::e) h g fun e h g=>cV cf l Y rest e h g K) (cV cf l Y rest (dJ ((d,.kb (!want))::e) dst (.tup [])) h g K)
   | .gd c v=>match lV v with
     | none=>.fail 104
     | some b=>.br (c && gB b want) (Ho l Y t dst xs ((d,.kb want)::e) h g fun e h g=>cV cf l Y rest e h g K) (cV cf l Y rest (dJ e dst (.tup [])) h g K)
   | _=>.fail 105
abbrev kn:=Nat->Nat
def lg (cf:CF α) (cp:CP α) (un:kn) (fr:Nat × Nat) (rd:RD) (Y:YV α):Nat->gE->bp->List O->Option Ex->(Ex->bp->List O->Option Ex->T α)->T α
 | _,.skip,e,h,g,K=>K .normal e h g
 | _,.reg ops,e,h,g,K=>cV cf rd.l Y ops e h g (K .normal)
 | _,.draw ds,e,h,g,K=>tg cp ds e h fun e h=>K .normal e h g
 | _,.drawY ds xs,e,h,g,K=>tg cp ds e h fun e h=>cV cf rd.l Y xs e h g (K .normal)
 | bi,.seq a b,e,h,g,K=>lg cf cp un fr rd Y bi a e h g fun x e h g=>match x with
   | .normal=>lg cf cp un fr rd Y bi b e h g K
   | .exit i=>K (.exit i) e h g
   | .ret=>K .ret e h g
 | bi,.cond c a b,e,h,g,K=>match cW e c with
   | .kb true=>lg cf cp un fr rd Y bi a e h g K
   | .kb false=>lg cf cp un fr rd Y bi b e h g K
   | .bool t=>match c with
     | .t s=>.br t (lg cf cp un fr rd Y bi a ((s,.kb true)::e) h g K) (lg cf cp un fr rd Y bi b ((s,.kb false)::e) h g K)
     | _=>.br t (lg cf cp un fr rd Y bi a e h g K) (lg cf cp un fr rd Y bi b e h g K)
   | _=>.fail 69
 | _,.block id b,e,h,g,K=>lg cf cp un fr rd Y id b e h g fun x e h g=>match x with
   | .exit i=>cond (Nat.beq i id) (K .normal e h g) (K (.exit i) e h g)
   | .normal=>K .normal e h g
   | .ret=>K .ret e h g
 | bi,.loop b,e,h,g,K=>match un bi with
   | 0=>.loop fr (.i b rd) e h g K
   | n+1=>UT (lg cf cp un fr rd Y bi b) (n+1) e h g K
 | _,.exit id,e,h,g,K=>K (.exit id) e h g
 | _,.ret,e,h,g,K=>K .ret e h g
 | bi,.scope b,e,h,g,K=>lg cf cp un fr rd Y bi b e h g K
def ai2 (K:Ex->bp->List O->T α) (e:bp):Ex->bp->List O->Option Ex->T α
 | .exit _,_,_,_=>.fail 93
 | .normal,_,h,none=>K .normal e h
 | .normal,_,h,some x=>K x e h
 | .ret,_,h,none=>K .normal e h
 | .ret,_,h,some x=>K x e h
def Hu:List V->Nat->bp
 | [],_=>[]
 | v::vs,i=>(i,v)::Hu vs (i+1)
def AV (cf:CF α):OT->bp->List O->(bp->List O->T α)->T α
 | .done,e,h,K=>K e h
 | .op o r,e,h,K=>fy cf [o] e h fun e h=>AV cf r e h K
 | .alt a b,e,h,K=>.und (AV cf a e h K) (AV cf b e h K)
def evC (cf:CF α) (cp:CP α) (un:kn):Nat × Nat->Nat->fB->bp->List O->(Ex->bp->List O->T α)->T α
 | _,_,.skip,e,h,K=>K .normal e h
 | _,_,.reg ops,e,h,K=>fy cf ops e h (K .normal)
 | _,_,.draw ds,e,h,K=>tg cp ds e h (K .normal)
 | _,_,.allo t,e,h,K=>AV cf t e h (K .normal)
 | _,_,.alloq t,e,h,K=>AV (fun f vs h K=>cp true f vs h fun v=>K v h) t e h (K .normal)
 | fr,bi,.seq a b,e,h,K=>evC cf cp un fr bi a e h fun x e h=>match x with
   | .normal=>evC cf cp un fr bi b e h K
   | .exit i=>K (.exit i) e h
   | .ret=>K .ret e h
 | fr,bi,.cond c a b,e,h,K=>match cW e c with
   | .kb true=>evC cf cp un fr bi a e h K
   | .kb false=>evC cf cp un fr bi b e h K
   | .bool t=>match c with
     | .t s=>.br t (evC cf cp un fr bi a ((s,.kb true)::e) h K) (evC cf cp un fr bi b ((s,.kb false)::e) h K)
     | _=>.br t (evC cf cp un fr bi a e h K) (evC cf cp un fr bi b e h K)
   | _=>.fail 69
 | fr,_,.block id b,e,h,K=>evC cf cp un fr id b e h fun x e h=>match x with
   | .exit i=>cond (Nat.beq i id) (K .normal e h) (K (.exit i) e h)
   | .normal=>K .normal e h
   | .ret=>K .ret e h
 | fr,bi,.loop b,e,h,K=>match un bi with
   | 0=>.loop fr (.s b) e h none fun x e h _=>K x e h
   | n+1=>evL (evC cf cp un fr bi b) (n+1) e h K
 | _,_,.exit id,e,h,K=>K (.exit id) e h
 | _,_,.ret,e,h,K=>K .ret e h
 | fr,bi,.scope b,e,h,K=>evC cf cp un fr bi b e h K
 | fr, bi,.range g ps asg body its,e,h,K=>match cW e g with
   | .fn f [] ys=>match zH its f with
     | some it=>cond (Nat.ble (bD ys+1) it.ntmps) (.all fun l=>lg cf cp un (fr.1,bD h) ⟨ps,asg,body,e,l⟩ (fun vs h K=>cond (Nat.beq (bD vs) (bD ps)) (evC cf cp un (fr.1,bD h) bi asg (oy e ps vs) h fun x e1 h1=>match x with
        | .normal=>evC cf cp un (fr.1,bD h) bi body e1 h1 fun x _ h2=>K x h2
        | _=>.fail 94) (.fail 95)) 0 it.body ((0,.yl l)::Hu ys 1) h none (ai2 K e)) (.fail 96)
     | none=>.fail 97
   | _=>.fail 98
def rn (e:bp) (h:List O):List yy->(List V->T α)->T α
 | [],K=>K []
 | .tmp t::l,K=>gD true (iq e t) fun v=>rn e h l fun vs=>K (v::vs)
 | .cell t n::l,K=>match n with
   | none=>TJ true h (iq e t) (match ldV h (iq e t) with
     | some v=>rn e h l fun vs=>K (v::vs)
     | none=>.fail 70)
   | some n=>TJ true h (iq e t) (match Sy h n (iq e t) with
     | some cs=>rn e h l fun vs=>K (.agg cs::vs)
     | none=>.fail 71)
def qW:List V->V
 | [v]=>v
 | vs=>.tup vs
def lI (cf:CF α) (cp:CP α) (un:kn) (lv:Nat) (sf:aI) (args:List V) (h:List O) (K:V->List O->T α):T α :=
 cond (Nat.ble (bD args) sf.ntmps) (evC cf cp un (lv,bD h) 0 sf.body (Hu args 0) h fun x e h=>match x with
  | .exit _=>.fail 72
  | _=>rn e h sf.res fun vs=>K (qW vs) (undead h)) (.fail 73)
def bQ (cs:List V) (off e:Nat):Nat->List V:=fun i=>(cs.drop (off+i * e)).take e
def qc (v:V):V:=cond v.fc v .any
def j7 (h:List O):Nat->V->V
 | 0,_=>.any
 | fu + 1,v=>match v with
   | .int k n=>.int k n
   | .bool b=>.bool b
   | .kb b=>.bool b
   | .str s=>.str s
   | .sl n f=>.sl n f
   | .sq n m f=>.sq n m f
   | .pd cs=>.pd cs
   | .ns=>.sl 0 fun _=>[]
   | .agg cs=>.agg (cs.map (j7 h fu))
   | .fn f xs ys=>.fn f (xs.map (j7 h fu)) (ys.map (j7 h fu))
   | .pl k off=>match fq h k with
     | some (.cells cs _)=>cond (Nat.ble off (bD cs)) (.pd ((cs.drop off).map fun v=>qc (j7 h fu v))) .any
     | _=>.any
   | .gs k n=>match fq h k with
     | some (.gl _ n' f _)=>cond (Nat.ble n n') (.sl n fun i=>(f i).map fun v=>qc (j7 h fu v)) .any
     | _=>.any
   | .ss k off n c=>match fq h k with
     | some (.cells cs _)=>cond (Nat.ble n 9223372036854775807 && (Nat.ble n c && Nat.ble (off+n * ((bD cs - off) / c)) (bD cs)))
        (.sq n c (bQ (cs.map fun v=>qc (j7 h fu v)) off ((bD cs - off) / c))) .any
     | _=>.any
   | _=>.any
def An:V->V
 | .int k n=>.int k n
 | .bool b=>.bool b
 | .kb b=>.bool b
 | .str s=>.str s
 | .sl n f=>.sl n f
 | .pd cs=>.pd cs
 | _=>.any
def jm (f:ah):Nat->List V:=fun i=>(f i).map An
def Er (h:List O) (k n:Nat):V:=match fq h k with
 | some (.gl e _ f _)=>cond (Nat.beq e 6) (j7 h 11 (.gs k n)) (.sl n (jm f))
 | _=>.any
def EB (h:List O):V->V
 | .gs k n=>Er h k n
 | v=>j7 h 11 v
def nT (h:List O):V->V
 | .gs k n=>Er h k n
 | .agg cs=>.agg (cs.map (EB h))
 | v=>j7 h 12 v
def E4 (h:List O) (k n:Nat):List (Nat × Nat):=match fq h k with
 | some (.gl _ n' _ _)=>[(n,n')]
 | _=>[]
def XX (h:List O):V->List (Nat × Nat)
 | .gs k n=>E4 h k n
 | _=>[]
def B5 (h:List O):List V->List (Nat × Nat)
 | []=>[]
 | v::vs=>uJ (XX h v) (B5 h vs)
def ZL (h:List O):V->List (Nat × Nat)
 | .gs k n=>E4 h k n
 | .agg cs=>B5 h cs
 | _=>[]
def mh (h:List O):List V->List (Nat × Nat)
 | []=>[]
 | v::vs=>uJ (ZL h v) (mh h vs)
def YE:List (Nat × Nat)->T α->T α
 | [],x=>x
 | p::l,x=>.ob (Nat.ble p.1 p.2) (YE l x)
end
end Go.Dx
namespace Go.Sx
inductive D where
 | v (a:ak)
 | ag (ds:List D)
 | sl (esz:Nat) (els:List (List D))
 | pt (ds:List D)
 | fn (f:FuncId) (xs ys:List D)
def bh:ak->Bool
 | .int .. | .bool .. | .str ..=>true
 | _=>false
def D.isC:D->Bool
 | .v _ | .sl .. | .pt _=>true
 | _=>false
def Xa (lh:List ap):Option gA->Prop
 | some (.l k _)=>isCells lh[k]? = true
 | _=>True
section
variable (w0:World) (lh:List ap)
mutual
def rd:D->ak->Prop
 | .v b,a=>bh b=true/\a=b
 | .ag ds,a=>∃ cs,a=.agg cs/\rdC ds cs
 | .sl esz els,a=>∃ p c,a=.slice p els.length c/\els.length<=9223372036854775807/\Xa lh p/\GP els esz p 0
 | .pt ds,a=>∃ p cs,a=.ptr (some p)/\lds w0 lh p ds.length=some cs/\rdC ds cs
 | .fn f xs ys,a=>∃ us vs,a=.fn (.func f) us vs/\rdL xs us/\rdL ys vs
def rdL:List D->List ak->Prop
 | [],cs=>cs=[]
 | d::ds,cs=>∃ x xs,cs=x::xs/\rd d x/\rdL ds xs
def rdC:List D->List ak->Prop
 | [],cs=>cs=[]
 | d::ds,cs=>∃ x xs,cs=x::xs/\d.isC=true/\rd d x/\rdC ds xs
def GP:List (List D)->Nat->Option gA->Nat->Prop
 | [],_,_,_=>True
 | e::es,esz,p,i=>(∃ q cs,p=some q/\lds w0 lh (q.add (i * esz)) esz=some cs/\rdC e cs)/\GP es esz p (i+1)
end
end
def plain:ak->Bool
 | .agg cs=>cs.all bh
 | .tup cs=>cs.all fun
   | .agg ds=>ds.all bh
   | a=>bh a
 | a=>bh a
theorem oc {m m':aD} {a:ak} {v:Value} (hs:bh a=true) (h:vrel m a v):vrel m' a v:=by
 cases a <;> simp only [bh] at hs <;> first | (simp only [vrel] at h ⊢; exact h) | cases hs
theorem il {m m':aD}:∀ {az:List ak} {vs:List Value},az.all bh=true->aw m az vs->aw m' az vs
 | [],_,_,h=>by simp only [aw] at h ⊢; exact h
 | a::az,_,hs,h=>by
   simp only [List.all_cons,Bool.and_eq_true] at hs
   simp only [aw] at h ⊢
   obtain ⟨u,us,rfl,h1,h2⟩:=h
   exact ⟨u,us,rfl,oc hs.1 h1,il hs.2 h2⟩
theorem Be {m m':aD} {a:ak} {v:Value} (hs:(match a with | .agg ds=>ds.all bh | a=>bh a)=true) (h:vrel m a v):vrel m' a v:=by
 cases a with
 | agg cs=>simp only [vrel] at h ⊢; obtain ⟨vs,rfl,h⟩:=h; exact ⟨vs,rfl,il hs h⟩
 | _=>exact oc hs h
theorem te {m m':aD}:∀ {az:List ak} {vs:List Value},(az.all fun | .agg ds=>ds.all bh | a=>bh a)=true->aw m az vs->aw m' az vs
 | [],_,_,h=>by simp only [aw] at h ⊢; exact h
 | a::az,_,hs,h=>by
   simp only [List.all_cons,Bool.and_eq_true] at hs
   simp only [aw] at h ⊢
   obtain ⟨u,us,rfl,h1,h2⟩:=h
   exact ⟨u,us,rfl,Be hs.1 h1,te hs.2 h2⟩
theorem GV {m m':aD} {a:ak} {v:Value} (hs:plain a=true) (h:vrel m a v):vrel m' a v:=by
 cases a with
 | agg cs=>simp only [vrel] at h ⊢; obtain ⟨vs,rfl,h⟩:=h; exact ⟨vs,rfl,il hs h⟩
 | tup cs=>simp only [vrel] at h ⊢; obtain ⟨vs,rfl,h⟩:=h; exact ⟨vs,rfl,te hs h⟩
 | _=>exact oc hs h
theorem qT {p:Nat->Prop} {a:ak} (hs:bh a=true):jz p a:=by
 cases a <;> first | (simp only [jz]; done) | (simp only [bh] at hs; cases hs)
theorem nZ {p:Nat->Prop}:∀ {az:List ak},az.all bh=true->ir p az
 | [],_=>by simp only [ir]
 | a::az,hs=>by
   simp only [List.all_cons,Bool.and_eq_true] at hs
   simp only [ir]; exact ⟨qT hs.1,nZ hs.2⟩
theorem vJ {p:Nat->Prop}:∀ {az:List ak},(az.all fun | .agg ds=>ds.all bh | a=>bh a)=true->ir p az
 | [],_=>by simp only [ir]
 | a::az,hs=>by
   simp only [List.all_cons,Bool.and_eq_true] at hs
   simp only [ir]
   refine ⟨?_,vJ hs.2⟩
   cases a with
   | agg cs=>simp only [jz]; exact nZ hs.1
   | _=>exact qT hs.1
theorem Nr {p:Nat->Prop} {a:ak} (hs:plain a=true):jz p a:=by
 cases a with
 | agg cs=>simp only [jz]; exact nZ hs
 | tup cs=>simp only [jz]; exact vJ hs
 | _=>exact qT hs
section
variable {B:cN} {m:aD} {lh:List ap} {w:World}
theorem iU {w:World} {a:Addr}:∀ (vs:List Value) (i:Nat),(∀ j v,vs[j]? = some v->w.cell? (a.add (i+j))=some v)->fm w a i vs.length=some (vs.map bo)
 | [],i,_=>rfl
 | v::vs,i,h=>by
   have h0:=h 0 v rfl
   simp only [Nat.add_zero] at h0
   have ih:=iU vs (i+1) (fun j u hu=>by have:=h (j+1) u (by simpa using hu); rw [← this]; congr 2; omega)
   simp only [List.length_cons,fm,h0,ih,List.map_cons]
theorem uS (h:aW B m lh w) {p:gA} {q:Option Addr} (hq:dl m (some p) q) {n:Nat} {xs:List ak} (hx:lds B.w0 lh p n=some xs) :
 ∃ a us,q=some a/\lds w [] (.g a) n=some (us.map bo)/\aw m xs us:=by
 cases p with
 | l k off =>
   simp only [lds] at hx
   split at hx
   ·rename_i cs ty hk
    split at hx
    ·rename_i hle
     cases hx
     obtain ⟨b,hb,rfl⟩:=hq
     obtain ⟨b',vs,hb',hvs,hh,_⟩:=h.loc k cs ty hk
     rw [hb] at hb'; cases hb'
     have hl:=cG hvs
     have hr:=i4 n (lf off hvs)
     have hn:((vs.toList.drop off).take n).length=n:=by simp at hl ⊢; omega
     refine ⟨_,(vs.toList.drop off).take n,rfl,?_,hr⟩
     have:=iU (w:=w) (a:=⟨b,off,none⟩) ((vs.toList.drop off).take n) 0 (fun j v hv=>by
      rw [kw]
      rw [List.getElem?_take] at hv
      split at hv
      ·rw [List.getElem?_drop] at hv
       simp only [World.cell?,hh]; simpa using hv
      ·cases hv)
     rw [hn] at this
     exact this
    ·cases hx
   ·cases hx
 | g a =>
   simp only [dl] at hq; subst hq
   obtain ⟨vs,rfl,h2,h3⟩:=dX n 0 xs hx
   refine ⟨a,vs,rfl,?_,bJ m vs⟩
   have:=iU (w:=w) (a:=a) vs 0 (fun j v hv=>h.cell_g (h3 j v hv))
   rw [h2] at this
   exact this
theorem aW.back (h:aW B m lh w) {m1:aD} {lh1:List ap} {w':World} (h':aW ⟨w,w,fun _=>False,[]⟩ m1 lh1 w'):aW B m lh w':=by
 have hold:∀ b,b < w.heap.size->w'.heap[b]? = w.heap[b]? := fun b hb=>h'.old b hb
 have hsz:w.heap.size<=w'.heap.size:=h'.size
 refine ⟨h'.os.trans h.os,h'.tape.trans h.tape,h'.output.trans h.output,Nat.le_trans h.size hsz,fun b hb=>?_,Nat.le_trans h.fsize hsz,fun b hb ho=>?_,fun k cs ty hk=>?_,h.inj,h.dom,h.dead,fun k b hb=>Nat.lt_of_lt_of_le (h.rng k b hb) hsz⟩
 ·rw [hold b (Nat.lt_of_lt_of_le hb h.size)]; exact h.old b hb
 ·rw [hold b (Nat.lt_of_lt_of_le hb h.fsize)]; exact h.kept b hb ho
 ·obtain ⟨b,vs,h1,h2,h3,h4⟩:=h.loc k cs ty hk
  exact ⟨b,vs,h1,h2,by rw [hold b (h.rng k b h1)]; exact h3,h4⟩
end
end Go.Sx
namespace Go.Dx
open Go.Sx
structure Nu where
 m:Nat->Option (Option (Nat × Nat × Nat))
 z:List ap
instance:CoeFun Nu fun _=>Nat->Option (Option (Nat × Nat × Nat)):=⟨Nu.m⟩
def sS (a b:List ap):Prop:=∀ (k:Nat) (az:List ak) (ty:TypeId),a[k]? = some (ap.cells az ty)->b[k]? = some (ap.cells az ty)
theorem kq (a:List ap):sS a a:=fun _ _ _ h=>h
theorem Gb (a:List ap):sS [] a:=fun _ _ _ h=>by simp at h
theorem mV {a b c:List ap} (h:sS a b) (k:sS b c):sS a c:=fun i az ty hx=>k i az ty (h i az ty hx)
def Nu.nil:Nu:=⟨fun _=>none,[]⟩
def Nu.sub (ν ν':Nu):Prop:=(∀ k x,ν k=some x->ν' k=some x)/\sS ν.z ν'.z
theorem Nu.nil_sub (ν:Nu):Nu.nil.sub ν:=⟨fun _ _ h=>by (cases h),Gb _⟩
theorem Nu.sub_refl (ν:Nu):ν.sub ν:=⟨fun _ _ h=>h,kq _⟩
theorem Nu.sub_trans {a b c:Nu} (h:a.sub b) (k:b.sub c):a.sub c:=⟨fun i x hx=>k.1 i x (h.1 i x hx),mV h.2 k.2⟩
def okQ (lh:List ap):Option gA->Prop
 | some (.l k off)=>∃ cs ty,lh[k]? = some (ap.cells cs ty)/\off<=cs.length
 | _=>True
mutual
def vr (w0:World) (lh:List ap) (ν:Nu):V->ak->Prop
 | .int k n,a=>a=.int k n
 | .bool b,a=>a=.bool b
 | .kb b,a=>a=.bool b
 | .str s,a=>a=.str s
 | .agg cs,a=>∃ az,a=.agg az/\bf w0 lh ν cs az
 | .tup cs,a=>∃ az,a=.tup az/\bf w0 lh ν cs az
 | .fn f xs ys,a=>∃ us vs,a=.fn (.func f) us vs/\bf w0 lh ν xs us/\bf w0 lh ν ys vs
 | .sl n f,a=>∃ p c esz,a=.slice p n c/\n<=c/\n<=9223372036854775807/\okQ lh p/\∀ i,i < n->∃ q az,p=some q/\lds w0 lh (q.add (i * esz)) esz=some az/\bf w0 lh Nu.nil (f i) az/\(f i).all V.fc=true
 | .sq n m f,a=>∃ p c esz,a=.slice p n c/\(n<=c/\n<=m)/\n<=9223372036854775807/\okQ lh p/\∀ i,i < n->∃ q az,p=some q/\lds w0 lh (q.add (i * esz)) esz=some az/\bf w0 lh Nu.nil (f i) az/\(f i).all V.fc=true
 | .pd cs,a=>∃ p az,a=.ptr (some p)/\Xa lh (some p)/\lds w0 lh p cs.length=some az/\bf w0 lh Nu.nil cs az/\cs.all V.fc=true
 | .pl k off,a=>∃ b c e,ν k=some (some (b,c,e))/\a=.ptr (some (.l b off))
 | .pe k i j,a=>∃ b c e,ν k=some (some (b,c,e))/\a=.ptr (some (.l b (i * e+j)))
 | .ss k off n c,a=>∃ b c' e,ν k=some (some (b,c',e))/\a=.slice (some (.l b off)) n c
 | .gs k n,a=>(ν k=some none/\n=0/\a=.slice none 0 0) ∨ ∃ b c e,ν k=some (some (b,c,e))/\a=.slice (some (.l b 0)) n c/\n<=c
 | .ns,a=>a=.slice none 0 0
 | .np,a=>a=.ptr none
 | .any,_=>True
 | .gd b v,a=>(b=true->vr w0 lh ν v a)/\(b=false->∃ l,a=.tup l)
 | .yl l,a=>a=iw l
 | .go k off n,a=>(ν k=some none/\n=0/\off=0/\a=.slice none 0 0) ∨ ∃ b c e o,ν k=some (some (b,c,e))/\a=.slice (some (.l b o)) n (c - off)/\(off+n<=c/\o<=c * e)/\(0 < n->o=off * e)
def bf (w0:World) (lh:List ap) (ν:Nu):List V->List ak->Prop
 | [],az=>az=[]
 | v::vs,az=>∃ x xs,az=x::xs/\vr w0 lh ν v x/\bf w0 lh ν vs xs
end
section lists
variable {α β:Type}
theorem bb:∀ (l:List α) (i:Nat),fq l i=l[i]?
 | [],_=>by simp [fq]
 | _::_,0=>by simp [fq]
 | _::l,i+1=>by simp [fq,bb l i]
theorem gr:∀ (l:List α) (i:Nat) (b:α),wP l i b=l.set i b
 | [],_,_=>rfl
 | _::_,0,_=>rfl
 | _::l,i+1,b=>by simp [wP,gr l i b]
theorem p9:∀ (l:List α) (b:α),yZ l b=l++[b]
 | [],_=>rfl
 | _::l,b=>by simp [yZ,p9 l b]
theorem j9:∀ (l b:List α),uJ l b=l++b
 | [],_=>rfl
 | _::l,b=>by simp [uJ,j9 l b]
theorem yac:∀ (l:List α),bD l=l.length
 | []=>rfl
 | _::l=>by simp [bD,yac l]
theorem tj:∀ {n:Nat} {l r:List α},pR n l=some r->n<=l.length/\r=l.drop n
 | 0,l,r,h=>by simp [pR] at h; simp [h]
 | n+1,[],r,h=>by simp [pR] at h
 | n+1,_::l,r,h=>by
   simp only [pR] at h
   obtain ⟨h1,h2⟩:=tj h
   exact ⟨by simp; exact h1,by simpa using h2⟩
theorem uE:∀ {n:Nat} {l r:List α},uy n l=some r->n<=l.length/\r=l.take n
 | 0,l,r,h=>by simp [uy] at h; simp [h]
 | n+1,[],r,h=>by simp [uy] at h
 | n+1,a::l,r,h=>by
   simp only [uy] at h
   split at h
   ·rename_i r' hr
    cases h
    obtain ⟨h1,h2⟩:=uE hr
    exact ⟨by simp; exact h1,by simp [h2]⟩
   ·cases h
theorem qh {l r:List α} {off n:Nat} (h:B3 l off n=some r):off+n<=l.length/\r=(l.drop off).take n:=by
 unfold B3 at h
 split at h
 ·rename_i r' hr
  obtain ⟨h1,rfl⟩:=tj hr
  obtain ⟨h3,rfl⟩:=uE h
  simp at h3
  exact ⟨by omega,rfl⟩
 ·cases h
end lists
section
variable {w0:World} {lh:List ap} {ν ν':Nu}
mutual
theorem mD (hn:∀ k x,ν k=some x->ν' k=some x):∀ (v:V) (a:ak),vr w0 lh ν v a->vr w0 lh ν' v a
 | .int ..,a,h=>by simp only [vr] at h ⊢; exact h
 | .bool ..,a,h=>by simp only [vr] at h ⊢; exact h
 | .kb ..,a,h=>by simp only [vr] at h ⊢; exact h
 | .str ..,a,h=>by simp only [vr] at h ⊢; exact h
 | .agg cs,a,h=>by simp only [vr] at h ⊢; obtain ⟨az,h1,h2⟩:=h; exact ⟨az,h1,fS hn cs az h2⟩
 | .tup cs,a,h=>by simp only [vr] at h ⊢; obtain ⟨az,h1,h2⟩:=h; exact ⟨az,h1,fS hn cs az h2⟩
 | .fn f xs ys,a,h=>by simp only [vr] at h ⊢; obtain ⟨us,vs,h1,h2,h3⟩:=h; exact ⟨us,vs,h1,fS hn xs us h2,fS hn ys vs h3⟩
 | .sl n f,a,h=>by
   simp only [vr] at h ⊢
   obtain ⟨p,c,esz,h1,h2,h3,h4,h5⟩:=h
   exact ⟨p,c,esz,h1,h2,h3,h4,fun i hi=>let ⟨q,az,g1,g2,g3⟩:=h5 i hi; ⟨q,az,g1,g2,g3⟩⟩
 | .sq n m f,a,h=>by
   simp only [vr] at h ⊢
   obtain ⟨p,c,esz,h1,h2,h3,h4,h5⟩:=h
   exact ⟨p,c,esz,h1,h2,h3,h4,fun i hi=>let ⟨q,az,g1,g2,g3⟩:=h5 i hi; ⟨q,az,g1,g2,g3⟩⟩
 | .pd cs,a,h=>by simp only [vr] at h ⊢; obtain ⟨p,az,h1,h2,h3,h4⟩:=h; exact ⟨p,az,h1,h2,h3,h4⟩
 | .pl k off,a,h=>by simp only [vr] at h ⊢; obtain ⟨b,c,e,h1,h2⟩:=h; exact ⟨b,c,e,hn _ _ h1,h2⟩
 | .pe k i j,a,h=>by simp only [vr] at h ⊢; obtain ⟨b,c,e,h1,h2⟩:=h; exact ⟨b,c,e,hn _ _ h1,h2⟩
 | .ss k off n c,a,h=>by simp only [vr] at h ⊢; obtain ⟨b,c',e,h1,h2⟩:=h; exact ⟨b,c',e,hn _ _ h1,h2⟩
 | .gs k n,a,h=>by
   simp only [vr] at h ⊢
   rcases h with ⟨h1,h2⟩ | ⟨b,c,e,h1,h2⟩
   ·exact .inl ⟨hn _ _ h1,h2⟩
   ·exact .inr ⟨b,c,e,hn _ _ h1,h2⟩
 | .ns,a,h=>by simp only [vr] at h ⊢; exact h
 | .np,a,h=>by simp only [vr] at h ⊢; exact h
 | .any,a,h=>by simp only [vr]
 | .gd b v,a,h=>by simp only [vr] at h ⊢; exact ⟨fun e=>mD hn v a (h.1 e),h.2⟩
 | .yl l,a,h=>by simp only [vr] at h ⊢; exact h
 | .go k off n,a,h=>by
   simp only [vr] at h ⊢
   rcases h with ⟨h1,h2⟩ | ⟨b,c,e,o,h1,h2⟩
   ·exact .inl ⟨hn _ _ h1,h2⟩
   ·exact .inr ⟨b,c,e,o,hn _ _ h1,h2⟩
theorem fS (hn:∀ k x,ν k=some x->ν' k=some x):∀ (vs:List V) (az:List ak),bf w0 lh ν vs az->bf w0 lh ν' vs az
 | [],az,h=>by simp only [bf] at h ⊢; exact h
 | v::vs,az,h=>by simp only [bf] at h ⊢; obtain ⟨x,xs,h1,h2,h3⟩:=h; exact ⟨x,xs,h1,mD hn v x h2,fS hn vs xs h3⟩
end
theorem Fl (hn:ν.sub ν') (v:V) (a:ak) (h:vr w0 lh ν v a):vr w0 lh ν' v a:=mD hn.1 v a h
theorem jh (hn:ν.sub ν') (v:List V) (a:List ak) (h:bf w0 lh ν v a):bf w0 lh ν' v a:=fS hn.1 v a h
theorem uk {lh lh':List ap} (hz:sS lh lh') {p:gA} {n:Nat} {az:List ak} (h:lds w0 lh p n=some az):lds w0 lh' p n=some az:=by
 cases p with
 | g a=>exact h
 | l k off =>
   simp only [lds] at h ⊢
   cases hk:lh[k]? with
   | none=>rw [hk] at h; cases h
   | some o =>
     cases o with
     | dead=>rw [hk] at h; cases h
     | hid=>rw [hk] at h; cases h
     | cells cs ty=>rw [hz k cs ty hk]; rw [hk] at h; exact h
theorem aeC {lh lh':List ap} (hz:sS lh lh') {p:Option gA} (h:Xa lh p):Xa lh' p:=by
 cases p with
 | none=>trivial
 | some p =>
   cases p with
   | g a=>trivial
   | l k off =>
     simp only [Xa] at h ⊢
     cases hk:lh[k]? with
     | none=>rw [hk] at h; cases h
     | some o =>
       cases o with
       | dead=>rw [hk] at h; cases h
       | hid=>rw [hk] at h; cases h
       | cells cs ty=>rw [hz k cs ty hk]; rfl
theorem KJ {lh lh':List ap} (hz:sS lh lh') {p:Option gA} (h:okQ lh p):okQ lh' p:=by
 cases p with
 | none=>trivial
 | some p =>
   cases p with
   | g a=>trivial
   | l k off=>obtain ⟨cs,ty,h1,h2⟩:=h; exact ⟨cs,ty,hz k cs ty h1,h2⟩
theorem Sd {lh:List ap} {p:gA} {n:Nat} {az:List ak} (h:lds w0 lh p n=some az):Xa lh (some p):=by
 cases p with
 | g a=>trivial
 | l k off =>
   simp only [lds] at h
   simp only [Xa]
   cases hk:lh[k]? with
   | none=>rw [hk] at h; cases h
   | some o =>
     cases o with
     | dead=>rw [hk] at h; cases h
     | hid=>rw [hk] at h; cases h
     | cells cs ty=>rfl
mutual
theorem kA {lh lh':List ap} (hz:sS lh lh'):∀ {ν:Nu} (v:V) (a:ak),vr w0 lh ν v a->vr w0 lh' ν v a
 | _,.int ..,a,h=>by simp only [vr] at h ⊢; exact h
 | _,.bool ..,a,h=>by simp only [vr] at h ⊢; exact h
 | _,.kb ..,a,h=>by simp only [vr] at h ⊢; exact h
 | _,.str ..,a,h=>by simp only [vr] at h ⊢; exact h
 | _,.agg cs,a,h=>by simp only [vr] at h ⊢; obtain ⟨az,h1,h2⟩:=h; exact ⟨az,h1,jl hz cs az h2⟩
 | _,.tup cs,a,h=>by simp only [vr] at h ⊢; obtain ⟨az,h1,h2⟩:=h; exact ⟨az,h1,jl hz cs az h2⟩
 | _,.fn f xs ys,a,h=>by simp only [vr] at h ⊢; obtain ⟨us,vs,h1,h2,h3⟩:=h; exact ⟨us,vs,h1,jl hz xs us h2,jl hz ys vs h3⟩
 | _,.sl n f,a,h=>by
   simp only [vr] at h ⊢
   obtain ⟨p,c,esz,h1,h2,h3,h4,h5⟩:=h
   exact ⟨p,c,esz,h1,h2,h3,KJ hz h4,fun i hi=>let ⟨q,az,g1,g2,g3,g4⟩:=h5 i hi; ⟨q,az,g1,uk hz g2,jl hz (f i) az g3,g4⟩⟩
 | _,.sq n m f,a,h=>by
   simp only [vr] at h ⊢
   obtain ⟨p,c,esz,h1,h2,h3,h4,h5⟩:=h
   exact ⟨p,c,esz,h1,h2,h3,KJ hz h4,fun i hi=>let ⟨q,az,g1,g2,g3,g4⟩:=h5 i hi; ⟨q,az,g1,uk hz g2,jl hz (f i) az g3,g4⟩⟩
 | _,.pd cs,a,h=>by simp only [vr] at h ⊢; obtain ⟨p,az,h1,h2,h3,h4,h5⟩:=h; exact ⟨p,az,h1,aeC hz h2,uk hz h3,jl hz cs az h4,h5⟩
 | _,.pl k off,a,h=>by simp only [vr] at h ⊢; exact h
 | _,.pe k i j,a,h=>by simp only [vr] at h ⊢; exact h
 | _,.ss k off n c,a,h=>by simp only [vr] at h ⊢; exact h
 | _,.gs k n,a,h=>by simp only [vr] at h ⊢; exact h
 | _,.ns,a,h=>by simp only [vr] at h ⊢; exact h
 | _,.np,a,h=>by simp only [vr] at h ⊢; exact h
 | _,.any,a,h=>by simp only [vr]
 | _,.gd b v,a,h=>by simp only [vr] at h ⊢; exact ⟨fun e=>kA hz v a (h.1 e),h.2⟩
 | _,.yl l,a,h=>by simp only [vr] at h ⊢; exact h
 | _,.go k off n,a,h=>by simp only [vr] at h ⊢; exact h
theorem jl {lh lh':List ap} (hz:sS lh lh'):∀ {ν:Nu} (vs:List V) (az:List ak),bf w0 lh ν vs az->bf w0 lh' ν vs az
 | _,[],az,h=>by simp only [bf] at h ⊢; exact h
 | _,v::vs,az,h=>by simp only [bf] at h ⊢; obtain ⟨x,xs,h1,h2,h3⟩:=h; exact ⟨x,xs,h1,kA hz v x h2,jl hz vs xs h3⟩
end
theorem YI (hn:ν.sub ν') (v:V) (a:ak) (h:vr w0 ν.z ν v a):vr w0 ν'.z ν' v a:=Fl hn v a (kA hn.2 v a h)
theorem Bb (hn:ν.sub ν') (v:List V) (a:List ak) (h:bf w0 ν.z ν v a):bf w0 ν'.z ν' v a:=jh hn v a (jl hn.2 v a h)
theorem bw:∀ {vs:List V} {az:List ak},bf w0 lh ν vs az->az.length=vs.length
 | [],_,h=>by simp only [bf] at h; subst h; rfl
 | _::_,_,h=>by simp only [bf] at h; obtain ⟨x,xs,rfl,_,h3⟩:=h; simp [bw h3]
theorem lx:∀ {vs:List V} {az:List ak} {i:Nat} {v:V},bf w0 lh ν vs az->vs[i]? = some v->∃ a,az[i]? = some a/\vr w0 lh ν v a
 | [],_,_,_,_,h=>by simp at h
 | _::_,_,0,_,hr,h=>by
   simp only [bf] at hr; obtain ⟨x,xs,rfl,h2,_⟩:=hr
   simp at h; subst h; exact ⟨x,rfl,h2⟩
 | _::_,_,i+1,_,hr,h=>by
   simp only [bf] at hr; obtain ⟨x,xs,rfl,_,h3⟩:=hr
   simp at h
   obtain ⟨a,h4,h5⟩:=lx h3 h
   exact ⟨a,by simpa using h4,h5⟩
theorem fv:∀ {vs:List V} {az:List ak} (n:Nat),bf w0 lh ν vs az->bf w0 lh ν (vs.drop n) (az.drop n)
 | vs,az,0,h=>by simpa using h
 | [],az,n+1,h=>by simp only [bf] at h; subst h; simp [bf]
 | _::_,az,n+1,h=>by simp only [bf] at h; obtain ⟨x,xs,rfl,_,h3⟩:=h; simpa using fv n h3
theorem gt:∀ {vs:List V} {az:List ak} (n:Nat),bf w0 lh ν vs az->bf w0 lh ν (vs.take n) (az.take n)
 | vs,az,0,h=>by simp [bf]
 | [],az,n+1,h=>by simp only [bf] at h; subst h; simp [bf]
 | _::_,az,n+1,h=>by
   simp only [bf] at h; obtain ⟨x,xs,rfl,h2,h3⟩:=h
   simp only [List.take_succ_cons,bf]; exact ⟨_,_,rfl,h2,gt n h3⟩
theorem jw:∀ {vs vs':List V} {az as':List ak},bf w0 lh ν vs az->bf w0 lh ν vs' as'->bf w0 lh ν (vs++vs') (az++as')
 | [],_,_,_,h,h'=>by simp only [bf] at h; subst h; simpa using h'
 | _::_,_,_,_,h,h'=>by
   simp only [bf] at h; obtain ⟨x,xs,rfl,h2,h3⟩:=h
   simp only [List.cons_append,bf]; exact ⟨_,_,rfl,h2,jw h3 h'⟩
theorem nh {α:Type}:∀ {cs:List α} {off:Nat} {xs r:List α},oP cs off xs=some r->off+xs.length<=cs.length/\r.length=cs.length
 | cs,0,[],r,h=>by simp [oP] at h; simp [h]
 | [],0,x::xs,r,h=>by simp [oP] at h
 | c::cs,0,x::xs,r,h=>by
   simp only [oP] at h
   split at h
   ·rename_i r' hr
    cases h
    have:=nh hr
    simp at this ⊢; omega
   ·cases h
 | [],off+1,xs,r,h=>by simp [oP] at h
 | c::cs,off+1,xs,r,h=>by
   simp only [oP] at h
   split at h
   ·rename_i r' hr
    cases h
    have:=nh hr
    simp at this ⊢; omega
   ·cases h
theorem wN (c:ak):∀ (xs cs:List ak) (off:Nat),wr (c::cs) (off+1) xs=c::wr cs off xs
 | [],_,_=>rfl
 | x::xs,cs,off=>by simp only [wr,List.set_cons_succ]; exact wN c xs _ _
theorem uA:∀ {cs:List V} {off:Nat} {xs:List V} {us:List ak} {az:List ak} {r:List V},bf w0 lh ν cs az->bf w0 lh ν xs us->oP cs off xs=some r->bf w0 lh ν r (wr az off us)
 | cs,0,[],us,az,r,h,hx,hw=>by
   simp only [bf] at hx; subst hx
   simp [oP] at hw; subst hw; exact h
 | [],0,x::xs,us,az,r,h,hx,hw=>by simp [oP] at hw
 | c::cs,0,x::xs,us,az,r,h,hx,hw=>by
   simp only [bf] at hx h
   obtain ⟨u,us,rfl,h1,h2⟩:=hx
   obtain ⟨a,az,rfl,h3,h4⟩:=h
   simp only [oP] at hw
   split at hw
   ·rename_i r' hr
    cases hw
    simp only [wr,List.set_cons_zero]
    rw [wN]
    simp only [bf]
    exact ⟨_,_,rfl,h1,uA h4 h2 hr⟩
   ·cases hw
 | [],off+1,xs,us,az,r,h,hx,hw=>by simp [oP] at hw
 | c::cs,off+1,xs,us,az,r,h,hx,hw=>by
   simp only [bf] at h
   obtain ⟨a,az,rfl,h3,h4⟩:=h
   simp only [oP] at hw
   split at hw
   ·rename_i r' hr
    cases hw
    rw [wN]
    simp only [bf]
    exact ⟨_,_,rfl,h3,uA h4 hx hr⟩
   ·cases hw
theorem Lj (a:ak):vr w0 lh ν (Eh a) a:=by
 unfold Eh
 split <;> simp only [vr,bf]
 exact ⟨_,_,rfl,rfl,rfl⟩
theorem na:∀ l:List ak,bf w0 lh ν (l.map Eh) l
 | []=>by simp [bf]
 | a::l=>by simp only [List.map_cons,bf]; exact ⟨_,_,rfl,Lj a,na l⟩
theorem Fh {v:V} {a:ak} (h:vr w0 lh ν v a) (h1:v.one=true):a.one=true:=by
 cases v <;> simp only [vr] at h
 case gs =>
  rcases h with ⟨_,_,h⟩ | ⟨_,_,_,_,h,_⟩ <;> (subst h; rfl)
 case go =>
  rcases h with ⟨_,_,_,h⟩ | ⟨_,_,_,_,_,h,_⟩ <;> (subst h; rfl)
 all_goals first
  | (simp [V.one] at h1; done)
  | (subst h; rfl)
  | (obtain ⟨_,_,rfl,_⟩:=h; rfl)
  | (obtain ⟨_,_,_,rfl,_⟩:=h; rfl)
  | (obtain ⟨_,_,_,_,rfl⟩:=h; rfl)
theorem i9:∀ {vs:List V} {az:List ak},bf w0 lh ν vs az->vs.all V.one=true->az.all ak.one=true
 | [],_,h,_=>by simp only [bf] at h; subst h; rfl
 | _::_,_,h,h1=>by
   simp only [bf] at h; obtain ⟨x,xs,rfl,h2,h3⟩:=h
   simp only [List.all_cons,Bool.and_eq_true] at h1 ⊢
   exact ⟨Fh h2 h1.1,i9 h3 h1.2⟩
theorem tM {v:V} {a:ak} (h:vr w0 lh ν v a) (h1:v.flat=true):a.flat=true/\bf w0 lh ν v.cells a.cells:=by
 by_cases hv:∃ cs,v=.agg cs
 ·obtain ⟨cs,rfl⟩:=hv
  simp only [vr] at h; obtain ⟨az,rfl,h2⟩:=h
  exact ⟨i9 h2 h1,h2⟩
 ·have h2:v.one=true:=by
   cases v <;> first | exact h1 | exact (hv ⟨_,rfl⟩).elim
  have h3:=Fh h h2
  have h4:v.cells=[v]:=by cases v <;> first | rfl | exact (hv ⟨_,rfl⟩).elim
  have h5:a.cells=[a]/\a.flat=true:=by
   cases a <;> first | exact ⟨rfl,h3⟩ | (simp [ak.one] at h3)
  refine ⟨h5.2,?_⟩
  rw [h4,h5.1]
  simp only [bf]; exact ⟨_,_,rfl,h,rfl⟩
structure fp (w0:World) (ν:Nu) (N:Nat) (e:bp) (sl:List ak):Prop where
 len:sl.length=N
 at':∀ i,vr w0 ν.z ν (iq e i) (sl.getD i .any)
theorem fp.mono {N:Nat} {e:bp} {sl:List ak} (h:fp w0 ν N e sl) (hn:ν.sub ν'):fp w0 ν' N e sl:=⟨h.len,fun i=>YI hn _ _ (h.at' i)⟩
theorem fp.arg {N:Nat} {e:bp} {sl:List ak} (h:fp w0 ν N e sl) (x:eS):vr w0 ν.z ν (cW e x) (arg sl x):=by
 cases x with
 | t i=>exact h.at' i
 | k a=>exact Lj a
theorem ks (d:Nat) (v:V) (e:bp) (i:Nat):iq ((d,v)::e) i=if i=d then v else iq e i:=by
 simp only [iq]
 by_cases h:i=d
 ·subst h; simp
 ·rw [if_neg h]
  have:Nat.beq i d=false:=by
   cases hb:Nat.beq i d with
   | false=>rfl
   | true=>exact (h (Nat.eq_of_beq_eq_true hb)).elim
  rw [this]; rfl
theorem fp.set {N:Nat} {e:bp} {sl:List ak} (h:fp w0 ν N e sl) {d:Nat} (hd:d < N) {v:V} {a:ak} (hv:vr w0 ν.z ν v a):fp w0 ν N ((d,v)::e) (sl.set d a):=by
 refine ⟨by simpa using h.len,fun i=>?_⟩
 rw [ks]
 by_cases hi:i=d
 ·subst hi
  have:=h.len
  rw [if_pos rfl]
  simp [List.getD,List.getElem?_set,show i < sl.length by omega]
  exact hv
 ·rw [if_neg hi]
  simp only [List.getD,List.getElem?_set]
  rw [if_neg (fun e=>hi e.symm)]
  exact h.at' i
theorem fp.put {N:Nat} {e:bp} {sl:List ak} (h:fp w0 ν N e sl) (d:Option Nat) (hd:∀ i,d=some i->i < N) {v:V} {a:ak} (hv:vr w0 ν.z ν v a):fp w0 ν N (dJ e d v) (d8 sl d a):=by
 cases d with
 | none=>exact h
 | some d=>exact h.set (hd d rfl) hv
theorem fp.know {N:Nat} {e:bp} {sl:List ak} (h:fp w0 ν N e sl) {d:Nat} {v:V} (hv:vr w0 ν.z ν v (sl.getD d .any)):fp w0 ν N ((d,v)::e) sl:=by
 refine ⟨h.len,fun i=>?_⟩
 rw [ks]
 split
 ·rename_i hi; subst hi; exact hv
 ·exact h.at' i
theorem fp.args {N:Nat} {e:bp} {sl:List ak} (h:fp w0 ν N e sl):∀ xs:List eS,bf w0 ν.z ν (xs.map (cW e)) (xs.map (Sx.arg sl))
 | []=>by simp [bf]
 | x::xs=>by simp only [List.map_cons,bf]; exact ⟨_,_,rfl,h.arg x,h.args xs⟩
end
abbrev d7:=Nat × Nat->Ay->bp->List O->Option Ex->(Ex->bp->List O->Option Ex->Prop)->Prop
def bn {α:Type} (LP:d7):T α->(α->Prop)->Prop
 | .ret a,Q=>Q a
 | .br b x y,Q=>(b=true->bn LP x Q)/\(b=false->bn LP y Q)
 | .ob b x,Q=>b=true/\bn LP x Q
 | .obi c d x,Q=>(c=true->d=true)/\bn LP x Q
 | .obp p x,Q=>p/\bn LP x Q
 | .obq a b x,Q=>a=b/\bn LP x Q
 | .fail _,_=>False
 | .loop fr body e h g k,Q=>LP fr body e h g fun ex e h g=>bn LP (k ex e h g) Q
 | .all f,Q=>∀ l,bn LP (f l) Q
 | .und x y,Q=>bn LP x Q/\bn LP y Q
 | .asm p x,Q=>p->bn LP x Q
def aV (h:List O) (k:Nat):Prop:=d6 h k=true
def yO (w0:World) (ν:Nu) (nV nS:Nat) (lh:List ap) (k:Nat):O->Prop
 | .cells cs ty=>∃ b c e az,ν k=some (some (b,c,e))/\lh[b]? = some (.cells az ty)/\bf w0 ν.z ν cs az
 | .gl esz n f ty=>(ν k=some none/\n=0) ∨ ∃ b c az,ν k=some (some (b,c,esz))/\lh[b]? = some (.cells az ty)/\az.length=c * esz/\(n<=c/\n<=9223372036854775807)/\∀ i,i < n->kS esz (f i)=true/\bf w0 ν.z ν (f i) ((az.drop (i * esz)).take esz)
 | .dead=>ν k=none/\nV<=k/\lh[nS+(k - nV)]? = some .dead
 | .hid=>True
structure HR (w0:World) (ν:Nu) (nV nS:Nat) (h:List O) (lh:List ap):Prop where
 blk:∀ k o,h[k]? = some o->yO w0 ν nV nS lh k o
 inj:∀ k k' x x',aV h k->aV h k'->ν k=some (some x)->ν k'=some (some x')->x.1=x'.1->k=k'
 dom:∀ k,h.length<=k->ν k=none
 rng:∀ k x,ν k=some (some x)->x.1 < lh.length
 zl:sS ν.z lh
 zn:∀ k x,aV h k->ν k=some (some x)->isCells ν.z[x.1]? = false
section
variable {w0:World} {ν ν':Nu} {nV nS:Nat} {h h':List O} {lh lh':List ap} {α:Type} {LP:d7} {Q:α->Prop}
theorem eh {k:Nat} (hk:aV h k):(∃ cs ty,h[k]? = some (.cells cs ty)) ∨ ∃ e n f ty,h[k]? = some (.gl e n f ty):=by
 unfold aV d6 at hk
 rw [bb] at hk
 split at hk
 ·rename_i cs ty he; exact .inl ⟨cs,ty,he⟩
 ·rename_i e n f ty he; exact .inr ⟨e,n,f,ty,he⟩
 ·cases hk
theorem dd {k:Nat} {cs:List V} {ty:TypeId} (hk:h[k]? = some (.cells cs ty)):aV h k:=by
 unfold aV d6; rw [bb,hk]
theorem ff {k e n:Nat} {f:Nat->List V} {ty:TypeId} (hk:h[k]? = some (.gl e n f ty)):aV h k:=by
 unfold aV d6; rw [bb,hk]
theorem cS {k:Nat} {o:O} (hn:ν.sub ν') (hd:o ≠ .dead) (hl:∀ b az ty,lh[b]? = some (.cells az ty)->(∃ c e,ν k=some (some (b,c,e)))->lh'[b]? = some (.cells az ty)) (hb:yO w0 ν nV nS lh k o):yO w0 ν' nV nS lh' k o:=by
 cases o with
 | cells cs ty =>
   obtain ⟨b,c,e,az,h1,h2,h3⟩:=hb
   exact ⟨b,c,e,az,hn.1 _ _ h1,hl _ _ _ h2 ⟨c,e,h1⟩,Bb hn _ _ h3⟩
 | gl esz n f ty =>
   rcases hb with ⟨h1,h2⟩ | ⟨b,c,az,h1,h2,h3,h4,h5⟩
   ·exact .inl ⟨hn.1 _ _ h1,h2⟩
   ·exact .inr ⟨b,c,az,hn.1 _ _ h1,hl _ _ _ h2 ⟨c,esz,h1⟩,h3,h4,fun i hi=>⟨(h5 i hi).1,Bb hn _ _ (h5 i hi).2⟩⟩
 | dead=>exact (hd rfl).elim
 | hid=>trivial
def sF (ν:Nu) (p:Nat) (x:Option (Nat × Nat × Nat)):Nu:=⟨fun k=>if k=p then some x else ν k,ν.z⟩
theorem d5 (ν:Nu) (p:Nat) (x:Option (Nat × Nat × Nat)) (k:Nat):sF ν p x k=if k=p then some x else ν k:=rfl
theorem gX {p:Nat} {x:Option (Nat × Nat × Nat)} (hp:ν p=none):ν.sub (sF ν p x):=⟨fun k y hk=>by
 rw [d5]
 have:k ≠ p:=fun e=>by subst e; rw [hp] at hk; cases hk
 rw [if_neg this]; exact hk,kq _⟩
theorem d4 (ν:Nu) (p:Nat) (x:Option (Nat × Nat × Nat)):sF ν p x p=some x:=by rw [d5,if_pos rfl]
theorem kt {o:Option ap} (h:isCells o=false) (az:List ak) (ty:TypeId):o ≠ some (.cells az ty):=fun e=>by subst e; cases h
theorem HU {z lh:List ap} (h:sS z lh) {b:Nat} (hb:isCells lh[b]? = false):isCells z[b]? = false:=by
 cases hz:z[b]? with
 | none=>rfl
 | some o =>
   cases o with
   | dead=>rfl
   | hid=>rfl
   | cells az ty=>rw [h b az ty hz] at hb; cases hb
theorem HR.put (hh:HR w0 ν nV nS h lh) {p b c e:Nat} {o:O} {az:List ak} {ty:TypeId} (hp:ν p=none) (hpl:p < h'.length)
 (ho:h'[p]? = some o) (hoth:∀ k,k ≠ p->h'[k]? = h[k]?) (hlb:lh'[b]? = some (.cells az ty)) (hlo:∀ j,j ≠ b->lh'[j]? = lh[j]?) (hfree:isCells lh[b]? = false)
 (hlen:lh.length<=lh'.length) (hdead:∀ k,h[k]? = some .dead->k ≠ p->nS+(k - nV) ≠ b) (hnd:o ≠ .dead)
 (hbr:yO w0 (sF ν p (some (b,c,e))) nV nS lh' p o):HR w0 (sF ν p (some (b,c,e))) nV nS h' lh'/\ν.sub (sF ν p (some (b,c,e))):=by
 have hs:=gX (x:=some (b,c,e)) hp
 have hlive:∀ k,k ≠ p->aV h' k->aV h k:=fun k hk hl=>by unfold aV d6 at *; rw [bb] at *; rw [hoth k hk] at hl; exact hl
 have hcell:∀ k x,aV h k->ν k=some (some x)->x.1 ≠ b:=fun k x hl hx e=>by
  subst e
  rcases eh hl with ⟨cs,t,hk⟩ | ⟨_,_,_,_,hk⟩
  ·obtain ⟨b',c',e',as',h1,h2,_⟩:=hh.blk k _ hk
   rw [hx] at h1; cases h1; rw [h2] at hfree; cases hfree
  ·rcases hh.blk k _ hk with ⟨h1,_⟩ | ⟨b',c',as',h1,h2,_⟩
   ·rw [hx] at h1; cases h1
   ·rw [hx] at h1; cases h1; rw [h2] at hfree; cases hfree
 have hzb:=HU hh.zl hfree
 refine ⟨⟨fun k o' hk=>?_,fun k k' x x' h1 h2 h3 h4 h5=>?_,fun k hk=>?_,fun k x hk=>?_,fun j as' ty' hj=>?_,fun k x hk hx=>?_⟩,hs⟩
 ·by_cases e1:k=p
  ·subst e1; rw [ho] at hk; cases hk; exact hbr
  ·rw [hoth k e1] at hk
   by_cases hd:o'=.dead
   ·subst hd
    obtain ⟨g1,g2,g3⟩:=hh.blk k _ hk
    exact ⟨by rw [d5,if_neg e1]; exact g1,g2,by rw [hlo _ (hdead k hk e1)]; exact g3⟩
   ·refine cS hs hd (fun b' as' ty' g1 _=>?_) (hh.blk k _ hk)
    rw [hlo b' (fun e2=>by subst e2; rw [g1] at hfree; cases hfree)]; exact g1
 ·rw [d5] at h3 h4
  by_cases e1:k=p <;> by_cases e2:k'=p
  ·rw [e1,e2]
  ·rw [if_pos e1] at h3; rw [if_neg e2] at h4; cases h3
   exact absurd h5.symm (hcell k' x' (hlive k' e2 h2) h4)
  ·rw [if_neg e1] at h3; rw [if_pos e2] at h4; cases h4
   exact absurd h5 (hcell k x (hlive k e1 h1) h3)
  ·rw [if_neg e1] at h3; rw [if_neg e2] at h4
   exact hh.inj k k' x x' (hlive k e1 h1) (hlive k' e2 h2) h3 h4 h5
 ·have e1:k ≠ p:=fun e1=>by subst e1; omega
  rw [d5,if_neg e1]
  apply hh.dom
  have:=hoth k e1
  rw [List.getElem?_eq_none hk] at this
  exact List.getElem?_eq_none_iff.1 this.symm
 ·rw [d5] at hk
  split at hk
  ·cases hk; exact (List.getElem?_eq_some_iff.1 hlb).1
  ·exact Nat.lt_of_lt_of_le (hh.rng k x hk) hlen
 ·have hj':ν.z[j]? = some (.cells as' ty'):=hj
  rw [hlo j fun e=>by rw [e] at hj'; exact kt hzb _ _ hj']
  exact hh.zl j as' ty' hj'
 ·rw [d5] at hx
  by_cases e1:k=p
  ·rw [if_pos e1] at hx; cases hx; exact hzb
  ·rw [if_neg e1] at hx; exact hh.zn k x (hlive k e1 hk) hx
def plR (nV nS:Nat) (pl plA:Option Nat):Prop:=(pl=none/\plA=none) ∨ ∃ p,pl=some p/\plA=some (nS+(p - nV))
theorem Az (hh:HR w0 ν nV nS h lh) {pl plA:Option Nat} (hp:plR nV nS pl plA) {o:O} {az:List ak} {ty:TypeId} {c e:Nat} {K:Nat->List O->T α} {KA:Nat->List ap->Prop} (hnd:o ≠ .dead)
 (hb:∀ p b lh',lh'[b]? = some (.cells az ty)->ν p=none->yO w0 (sF ν p (some (b,c,e))) nV nS lh' p o)
 (hs:bn LP (eY pl h o K) Q) (hK:∀ p b h' lh',((pl=none/\plA=none) ∨ (pl=some p/\plA=some b/\h'=h.set p o/\lh'=lh.set b (.cells az ty)/\p < h.length/\b < lh.length))->ν p=none->HR w0 (sF ν p (some (b,c,e))) nV nS h' lh'->bn LP (K p h') Q->KA b lh'):place plA lh (.cells az ty) KA:=by
 rcases hp with ⟨rfl,rfl⟩ | ⟨p,rfl,rfl⟩
 ·simp only [eY] at hs
  rw [yac,p9] at hs
  have hp:=hh.dom h.length (Nat.le_refl _)
  obtain ⟨h1,_⟩:=hh.put (h':=h++[o]) (lh':=lh++[.cells az ty]) (p:=h.length) (b:=lh.length) (c:=c) (e:=e) (o:=o) (az:=az) (ty:=ty) hp (by simp) (by simp)
   (fun k hk=>by
     rw [List.getElem?_append]; split
     ·rfl
     ·rw [List.getElem?_eq_none (by simp; omega),List.getElem?_eq_none (by omega)])
   (by simp)
   (fun k hk=>by
     rw [List.getElem?_append]; split
     ·rfl
     ·rw [List.getElem?_eq_none (by simp; omega),List.getElem?_eq_none (by omega)])
   (by simp [isCells]) (by simp)
   (fun k hk _=>by obtain ⟨_,_,g3⟩:=hh.blk k _ hk; have:=(List.getElem?_eq_some_iff.1 g3).1; omega)
   hnd (hb _ _ _ (by simp) hp)
  exact hK _ _ _ _ (.inl ⟨rfl,rfl⟩) hp h1 hs
 ·simp only [eY,bb] at hs
  split at hs
  ·rename_i hd
   rw [gr] at hs
   obtain ⟨g1,g2,g3⟩:=hh.blk p _ hd
   refine ⟨g3,?_⟩
   have hlt:=(List.getElem?_eq_some_iff.1 hd).1
   have hlt':=(List.getElem?_eq_some_iff.1 g3).1
   obtain ⟨h1,_⟩:=hh.put (h':=h.set p o) (lh':=lh.set (nS+(p - nV)) (.cells az ty)) (p:=p) (b:=nS+(p - nV)) (c:=c) (e:=e) (o:=o) (az:=az) (ty:=ty) g1 (by simpa using hlt) (by simp [hlt])
    (fun k hk=>by simp [hk.symm]) (by simp [hlt']) (fun k hk=>by simp [hk.symm]) (by rw [g3]; rfl) (by simp)
    (fun k hk hne e1=>by obtain ⟨_,k2,_⟩:=hh.blk k _ hk; omega)
    hnd (hb _ _ _ (by simp [hlt']) g1)
   exact hK _ _ _ _ (.inr ⟨rfl,rfl,rfl,rfl,hlt,hlt'⟩) g1 h1 hs
  ·exact hs.elim
theorem HR.set (hh:HR w0 ν nV nS h lh) {k b c e:Nat} {o:O} {az:List ak} {ty:TypeId} (hk:aV h k) (hν:ν k=some (some (b,c,e))) (hc:isCells lh[b]? = true) (hlo:d6 [o] 0=true)
 (hbr:yO w0 ν nV nS (lh.set b (.cells az ty)) k o):HR w0 ν nV nS (h.set k o) (lh.set b (.cells az ty)):=by
 have hkl:k < h.length:=by
  rcases eh hk with ⟨_,_,g⟩ | ⟨_,_,_,_,g⟩ <;> exact (List.getElem?_eq_some_iff.1 g).1
 have hlive:∀ j,aV (h.set k o) j->aV h j:=fun j hj=>by
  by_cases e1:j=k
  ·subst e1; exact hk
  ·unfold aV d6 at *; rw [bb] at *; rw [List.getElem?_set,if_neg (Ne.symm e1)] at hj; exact hj
 refine ⟨fun j o' hj=>?_,fun j j' x x' h1 h2=>hh.inj j j' x x' (hlive j h1) (hlive j' h2),fun j hj=>hh.dom j (by simpa using hj),fun j x hx=>by simpa using hh.rng j x hx,fun j as' ty' hj=>?_,fun j x hj hx=>hh.zn j x (hlive j hj) hx⟩
 case refine_2 =>
  rw [List.getElem?_set,if_neg fun e2=>?_]
  ·exact hh.zl j as' ty' hj
  ·subst e2; exact kt (hh.zn k _ hk hν) _ _ hj
 by_cases e1:j=k
 ·subst e1
  rw [List.getElem?_set,if_pos rfl,if_pos hkl] at hj; cases hj; exact hbr
 ·rw [List.getElem?_set,if_neg (Ne.symm e1)] at hj
  by_cases hd:o'=.dead
  ·subst hd
   obtain ⟨g1,g2,g3⟩:=hh.blk j _ hj
   refine ⟨g1,g2,?_⟩
   rw [List.getElem?_set,if_neg (fun e2=>by rw [← e2] at g3; rw [g3] at hc; cases hc)]; exact g3
  ·by_cases hl:o'=.hid
   ·subst hl; trivial
   ·refine cS (Nu.sub_refl ν) hd (fun b' as' ty' g1 g2=>?_) (hh.blk j _ hj)
    rw [List.getElem?_set,if_neg]
    ·exact g1
    ·intro e2
     subst e2
     obtain ⟨c',e',g3⟩:=g2
     have hlj:aV h j:=by
      unfold aV d6; rw [bb,hj]
      cases o' <;> first | rfl | exact (hd rfl).elim | exact (hl rfl).elim
     exact e1 (hh.inj j k _ _ hlj hk g3 hν rfl)
theorem HR.hide1 (hh:HR w0 ν nV nS h lh) (k:Nat):HR w0 ν nV nS (h.set k .hid) lh:=by
 have hlive:∀ j,aV (h.set k .hid) j->aV h j:=fun j hj=>by
  by_cases e1:k=j
  ·subst e1
   exfalso
   rcases eh hj with ⟨_,_,g⟩ | ⟨_,_,_,_,g⟩ <;> (rw [List.getElem?_set,if_pos rfl] at g; split at g <;> cases g)
  ·unfold aV d6 at *; rw [bb] at *
   rw [List.getElem?_set,if_neg e1] at hj; exact hj
 refine ⟨fun j o hj=>?_,fun j j' x x' h1 h2=>hh.inj j j' x x' (hlive j h1) (hlive j' h2),fun j hj=>hh.dom j (by simpa using hj),hh.rng,hh.zl,fun j x hj hx=>hh.zn j x (hlive j hj) hx⟩
 rw [List.getElem?_set] at hj
 split at hj
 ·split at hj
  ·cases hj; trivial
  ·cases hj
 ·exact hh.blk j o hj
end
section
variable {w0:World} {ν ν':Nu} {nV nS N:Nat} {h h':List O} {lh lh':List ap} {α:Type} {LP:d7} {Q:α->Prop} {e:bp} {sl:List ak} {ctx:Bool}
theorem w4 (a:Addr) (i j:Nat):(a.add i).add j=a.add (i+j):=by
 unfold Addr.add
 by_cases hi:i=0
 ·subst hi; simp
 ·by_cases hj:j=0
  ·subst hj; simp
  ·have:¬ (i+j=0):=by omega
   simp [hi,hj,this,Nat.add_assoc]
theorem zI (p:gA) (i j:Nat):(p.add i).add j=p.add (i+j):=by
 cases p with
 | l k off=>simp [gA.add,Nat.add_assoc]
 | g a=>simp [gA.add,w4]
theorem uH {a:Addr} {n i m:Nat} {az:List ak} (hg:fm w0 a 0 n=some az) (hle:i+m<=n):fm w0 (a.add i) 0 m=some ((az.drop i).take m):=by
 obtain ⟨vs,rfl,hl,hc⟩:=dX n 0 az hg
 have:=iU (w:=w0) (a:=a.add i) ((vs.drop i).take m) 0 (fun j v hv=>by
  rw [List.getElem?_take] at hv
  split at hv
  ·rw [List.getElem?_drop] at hv
   rw [w4]
   have:=hc (i+j) v hv
   simpa using this
  ·cases hv)
 rw [show ((vs.drop i).take m).length=m by simp; omega] at this
 rw [this]; simp
theorem Ef {z:List ap} {p:gA} {n i m:Nat} {az:List ak} (hl:lds w0 z p n=some az) (hle:i+m<=n) (hz:sS z lh):lds w0 lh (p.add i) m=some ((az.drop i).take m):=by
 cases p with
 | g a=>exact uH hl hle
 | l k off =>
   have h2:=uk hz hl
   simp only [lds,gA.add] at h2 ⊢
   split at h2
   ·rename_i cs ty hk
    split at h2
    ·rename_i hlen
     cases h2
     rw [if_pos (by omega),List.drop_take,List.drop_drop,List.take_take,Nat.min_eq_left (by omega)]
    ·cases h2
   ·cases h2
theorem pF {p:gA} {n:Nat} {az:List ak} (hl:lds w0 lh p n=some az):az.length=n:=by
 cases p with
 | l k off =>
   simp only [lds] at hl
   split at hl
   ·split at hl
    ·cases hl; simp; omega
    ·cases hl
   ·cases hl
 | g a =>
   obtain ⟨vs,rfl,h2,_⟩:=dX n 0 az hl
   simpa using h2
theorem G8 {z:List ap} {p:gA} {n:Nat} {az:List ak} {x:ak} (hl:lds w0 z p n=some az) (hx:az[0]? = some x) (hz:sS z lh):ld w0 lh p=some x:=by
 cases p with
 | g a =>
   obtain ⟨vs,rfl,h2,h3⟩:=dX n 0 az hl
   rw [List.getElem?_map] at hx
   cases hv:vs[0]? with
   | none=>rw [hv] at hx; cases hx
   | some v =>
     rw [hv] at hx; cases hx
     have:=h3 0 v hv
     simp [Addr.add] at this
     simp [ld,this]
 | l k off =>
   have h2:=uk hz hl
   simp only [lds] at h2
   split at h2
   ·rename_i cs ty hk
    split at h2
    ·cases h2
     simp only [ld,hk]
     rw [List.getElem?_take] at hx
     split at hx
     ·rw [List.getElem?_drop] at hx; exact hx
     ·cases hx
    ·cases h2
   ·cases h2
theorem A9 {v:V} {a:ak} {K:V->T α} (hc:ctx=true) (hv:vr w0 lh ν v a) (hs:bn LP (gD ctx v K) Q):∃ u,vr w0 lh ν u a/\bn LP (K u) Q:=by
 unfold gD at hs
 split at hs
 ·rename_i b u
  simp only [bn] at hs
  simp only [vr] at hv
  subst hc
  exact ⟨u,hv.1 (hs.1 rfl),hs.2⟩
 ·exact ⟨_,hv,hs⟩
theorem Ab {v:V} {a:ak} {K:V->T α} (hc:ctx=true) (hv:vr w0 lh ν v a) (hs:bn LP (gD ctx v K) Q):∃ u,vr w0 lh ν u a/\bn LP (K u) Q/\∀ h l,iG h v=some l->u=v:=by
 unfold gD at hs
 split at hs
 ·rename_i b u
  simp only [bn] at hs
  simp only [vr] at hv
  subst hc
  exact ⟨u,hv.1 (hs.1 rfl),hs.2,fun h l hn=>by simp [iG] at hn⟩
 ·exact ⟨_,hv,hs,fun _ _ _=>rfl⟩
theorem bm {x:eS} {K:V->T α} (hsl:fp w0 ν N e sl) (hc:ctx=true) (hs:bn LP (gD ctx (cW e x) K) Q):∃ u,vr w0 ν.z ν u (arg sl x)/\bn LP (K u) Q:=A9 hc (hsl.arg x) hs
theorem j4 (hsl:fp w0 ν N e sl) (hc:ctx=true):∀ {xs:List eS} {K:List V->T α},bn LP (rZ ctx e xs K) Q->∃ us,bf w0 ν.z ν us (xs.map (arg sl))/\bn LP (K us) Q
 | [],K,hs=>⟨[],by simp [bf],hs⟩
 | x::xs,K,hs=>by
   simp only [rZ] at hs
   obtain ⟨u,h1,h2⟩:=bm hsl hc hs
   obtain ⟨us,h3,h4⟩:=j4 hsl hc h2
   exact ⟨u::us,by simp only [List.map_cons,bf]; exact ⟨_,_,rfl,h1,h3⟩,h4⟩
def W7 (w0:World) (ν:Nu):Option V->Option ak->Prop
 | none,a=>a=none
 | some v,a=>∃ x,a=some x/\vr w0 ν.z ν v x
theorem jW (hsl:fp w0 ν N e sl) (hc:ctx=true) {x:Option eS} {K:Option V->T α} (hs:bn LP (rY ctx e x K) Q):∃ u,W7 w0 ν u (x.map (arg sl))/\bn LP (K u) Q:=by
 cases x with
 | none=>exact ⟨none,rfl,hs⟩
 | some x =>
   simp only [rY] at hs
   obtain ⟨u,h1,h2⟩:=bm hsl hc hs
   exact ⟨some u,⟨_,rfl,h1⟩,h2⟩
theorem eK {p:Prop} [Decidable p] {x:T α} (hc:ctx=true) (hs:bn LP (u5 ctx p x) Q):p/\bn LP x Q:=by
 simp only [u5,bn] at hs; subst hc; exact ⟨by simpa using hs.1 rfl,hs.2⟩
theorem dN {x:Option V} {xa:Option ak} {y d:Nat} {K:Nat->T α} {KA:Nat->Prop} (hc:ctx=true) (hx:W7 w0 ν x xa) (hs:bn LP (kO ctx x y d K) Q) (hK:∀ n,(x=none->n=d)->(x ≠ none->n<=y)->bn LP (K n) Q->KA n):bnd xa y d KA:=by
 cases x with
 | none =>
   simp only [W7] at hx; subst hx
   exact hK d (fun _=>rfl) (fun h=>(h rfl).elim) hs
 | some v =>
   simp only [W7] at hx
   obtain ⟨a,rfl,hv⟩:=hx
   cases v <;> simp only [kO] at hs <;> try exact hs.elim
   simp only [vr] at hv; subst hv
   obtain ⟨⟨h1,h2⟩,h3⟩:=eK hc hs
   exact ⟨h1,h2,hK _ (fun h=>by cases h) (fun _=>by omega) h3⟩
theorem re {x:Option V} {xa:Option ak} {y y' d:Nat} {KA:Nat->Prop} (hy:y<=y') (hb:bnd xa y d KA):bnd xa y' d KA:=by
 unfold bnd at *
 split at hb
 ·exact hb
 ·exact ⟨hb.1,by omega,hb.2.2⟩
 ·exact hb.elim
theorem rj (hsl:fp w0 ν N e sl) (hc:ctx=true):∀ {ps:List (Nat × Nat × eS)} {z:List V} {za:List ak} {K:List V->T α} {KA:List ak->Prop},bf w0 ν.z ν z za->bn LP (oC ctx e ps z K) Q ->
 (∀ cs az,bf w0 ν.z ν cs az->bn LP (K cs) Q->KA az)->parts sl ps za KA
 | [],z,za,K,KA,hz,hs,hK=>hK z za hz hs
 | (off,n,x)::ps,z,za,K,KA,hz,hs,hK=>by
   simp only [oC] at hs
   obtain ⟨v,h1,h2⟩:=bm hsl hc hs
   cases hf:(v.flat && Nat.beq (bD v.cells) n) with
   | false=>rw [hf] at h2; exact h2.elim
   | true =>
     rw [hf] at h2
     simp only [cond_true] at h2
     simp only [Bool.and_eq_true] at hf
     obtain ⟨g1,g2⟩:=tM h1 hf.1
     have g3:=Nat.eq_of_beq_eq_true hf.2
     rw [yac] at g3
     split at h2
     ·rename_i z' hz'
      have hl:=nh hz'
      have:=bw g2
      have hzl:=bw hz
      exact ⟨g1,by omega,by omega,rj hsl hc (uA hz g2 hz') h2 hK⟩
     ·exact h2.elim
def qI (w0:World) (S:FuncId->bE) (LP:d7) (md:Bool) (cf:CF α):Prop:=∀ (f:FuncId) (vs:List V) (h:List O) (K:V->List O->T α) (Q:α->Prop) (ν:Nu) (nV nS:Nat) (args:List ak) (lh:List ap) (KA:ak->List ap->Prop),
 bf w0 ν.z ν vs args->HR w0 ν nV nS h lh->bn LP (cf f vs h K) Q->(∀ v h' ν' a lh',(md=true->ν'=ν/\h'=h/\lh'=lh)->ν.sub ν'->HR w0 ν' nV nS h' lh'->vr w0 ν'.z ν' v a->bn LP (K v h') Q->KA a lh')->S f w0 args lh KA
structure vl (ν ν':Nu) (wn:List Nat) (pl plA:Option Nat) (h h':List O) (lh lh':List ap):Prop where
 len:lh'.length=lh.length
 chg:∀ j,plA ≠ some j->(∀ k x,k ∈ wn->ν k=some (some x)->x.1 ≠ j)->lh'[j]? = lh[j]?
 nw:∀ k x,ν' k=some x->ν k=some x ∨ (pl=some k/\∀ y,x=some y->(plA=some y.1 ∨ ∃ k0 z,k0 ∈ wn/\ν k0=some (some z)/\z.1=y.1))
 hlen:h'.length=h.length
 liv:∀ k,aV h' k->aV h k ∨ pl=some k
 zz:ν'.z=ν.z
theorem vl.refl (ν:Nu) (wn:List Nat) (pl plA:Option Nat) (h:List O) (lh:List ap):vl ν ν wn pl plA h h lh lh:=⟨rfl,fun _ _ _=>rfl,fun _ _ h=>.inl h,rfl,fun _ h=>.inl h,rfl⟩
theorem BW (hh:HR w0 ν nV nS h lh) {v u:V} {a:ak} (hv:vr w0 ν.z ν v a) (hl:ldV h v=some u) (hpe:∀ k i j,v=.pe k i j->∀ e n f ty,h[k]? = some (.gl e n f ty)->i < n):∃ p x,a=.ptr (some p)/\ld w0 lh p=some x/\vr w0 ν.z ν u x:=by
 unfold ldV at hl
 split at hl
 ·rename_i k off
  rw [bb] at hl
  split at hl
  ·rename_i cs ty hk
   rw [bb] at hl
   obtain ⟨b,c,e,az,h1,h2,h3⟩:=hh.blk k _ hk
   simp only [vr] at hv
   obtain ⟨b',c',e',h4,rfl⟩:=hv
   rw [h1] at h4
   obtain ⟨rfl,rfl,rfl⟩:_=b'/\_=c'/\_=e':=by simpa using h4
   obtain ⟨x,h5,h6⟩:=lx h3 hl
   exact ⟨_,x,rfl,by simp only [ld,h2]; exact h5,h6⟩
  ·cases hl
 ·rename_i k i j
  rw [bb] at hl
  split at hl
  ·rename_i e n f ty hk
   rw [bb] at hl
   have hi:=hpe k i j rfl _ _ _ _ hk
   simp only [vr] at hv
   obtain ⟨b',c',e',h4,rfl⟩:=hv
   rcases hh.blk k _ hk with ⟨h1,h2⟩ | ⟨b,c,az,h1,h2,h3,hn,h5⟩
   ·omega
   ·rw [h1] at h4
    obtain ⟨rfl,rfl,rfl⟩:_=b'/\_=c'/\_=e':=by simpa using h4
    obtain ⟨x,h6,h7⟩:=lx (h5 i hi).2 hl
    refine ⟨_,x,rfl,?_,h7⟩
    rw [List.getElem?_take] at h6
    split at h6
    ·rw [List.getElem?_drop] at h6
     simp only [ld,h2]; exact h6
    ·cases h6
  ·cases hl
 ·rename_i cs
  rw [bb] at hl
  simp only [vr] at hv
  obtain ⟨p,az,rfl,_,h2,h3,_⟩:=hv
  obtain ⟨x,h4,h5⟩:=lx h3 hl
  exact ⟨p,x,rfl,G8 h2 h4 hh.zl,Fl (Nu.nil_sub ν) _ _ h5⟩
 ·cases hl
theorem F7 (hh:HR w0 ν nV nS h lh) {v:V} {m:Nat} {us:List V} {a:ak} (hv:vr w0 ν.z ν v a) (hl:Sy h m v=some us) (hpe:∀ k i j,v=.pe k i j->∀ e n f ty,h[k]? = some (.gl e n f ty)->i < n):∃ p xs,a=.ptr (some p)/\lds w0 lh p m=some xs/\bf w0 ν.z ν us xs:=by
 unfold Sy at hl
 split at hl
 ·rename_i k off
  rw [bb] at hl
  split at hl
  ·rename_i cs ty hk
   obtain ⟨g1,rfl⟩:=qh hl
   obtain ⟨b,c,e,az,h1,h2,h3⟩:=hh.blk k _ hk
   simp only [vr] at hv
   obtain ⟨b',c',e',h4,rfl⟩:=hv
   rw [h1] at h4
   obtain ⟨rfl,rfl,rfl⟩:_=b'/\_=c'/\_=e':=by simpa using h4
   refine ⟨_,_,rfl,?_,gt m (fv off h3)⟩
   simp only [lds,h2]
   rw [if_pos (by have:=bw h3; omega)]
  ·cases hl
 ·rename_i k i j
  rw [bb] at hl
  split at hl
  ·rename_i e n f ty hk
   obtain ⟨g1,rfl⟩:=qh hl
   have hi:=hpe k i j rfl _ _ _ _ hk
   simp only [vr] at hv
   obtain ⟨b',c',e',h4,rfl⟩:=hv
   rcases hh.blk k _ hk with ⟨h1,h2⟩ | ⟨b,c,az,h1,h2,h3,hn,h5⟩
   ·omega
   ·rw [h1] at h4
    obtain ⟨rfl,rfl,rfl⟩:_=b'/\_=c'/\_=e':=by simpa using h4
    obtain ⟨ho,hvs⟩:=h5 i hi
    have hlen:=bw hvs
    unfold kS at ho
    simp only [Bool.and_eq_true] at ho
    have h8:=Nat.eq_of_beq_eq_true ho.1
    rw [yac] at h8
    have hle:i * e+e<=c * e:=by rw [← Nat.succ_mul]; exact Nat.mul_le_mul_right e (by omega)
    refine ⟨_,_,rfl,?_,gt m (fv j hvs)⟩
    simp only [lds,h2]
    rw [if_pos (by omega),List.drop_take,List.drop_drop,List.take_take,Nat.min_eq_left (by omega)]
  ·cases hl
 ·rename_i cs
  obtain ⟨g1,rfl⟩:=uE hl
  simp only [vr] at hv
  obtain ⟨p,az,rfl,_,h2,h3,_⟩:=hv
  refine ⟨p,az.take m,rfl,?_,gt m (jh (Nu.nil_sub ν) _ _ h3)⟩
  have:=Ef (i:=0) (m:=m) h2 (by omega) hh.zl
  have e0:p.add 0=p:=by cases p <;> simp [gA.add,Addr.add]
  rw [e0] at this
  simpa using this
 ·cases hl
theorem sZ {v:V} {x:T α} (hc:ctx=true) (hs:bn LP (TJ ctx h v x) Q):(∀ k i j,v=.pe k i j->∀ e n f ty,h[k]? = some (.gl e n f ty)->i < n)/\bn LP x Q:=by
 unfold TJ at hs
 split at hs
 ·rename_i k i j
  rw [bb] at hs
  split at hs
  ·rename_i e n f ty hk
   obtain ⟨h1,h2⟩:=eK hc hs
   exact ⟨fun k' i' j' he e' n' f' ty' hk'=>by cases he; rw [hk] at hk'; cases hk'; exact h1,h2⟩
  ·exact hs.elim
 ·rename_i hne
  exact ⟨fun k i j he=>(hne k i j he).elim,hs⟩
theorem tO:∀ (us az:List ak) (off t:Nat),off+us.length<=az.length->(wr az off us)[t]? = if off<=t/\t < off+us.length then us[t - off]? else az[t]?
 | [],az,off,t,h=>by
   simp only [wr]
   rw [if_neg (by simp only [List.length_nil]; omega)]
 | u :: us,az,off,t,h=>by
   simp only [wr]
   simp only [List.length_cons] at h
   rw [tO us _ _ _ (by simp; omega)]
   by_cases h1:off+1<=t/\t < off+1+us.length
   ·rw [if_pos h1,if_pos ⟨by omega,by simp; omega⟩,show t - off=(t - (off+1))+1 by omega]; simp
   ·rw [if_neg h1]
    by_cases h2:t=off
    ·subst h2
     rw [List.getElem?_set,if_pos rfl,if_pos (by omega),if_pos ⟨Nat.le_refl _,by simp⟩]; simp
    ·rw [List.getElem?_set,if_neg (Ne.symm h2),if_neg (by simp; omega)]
theorem zK {az us:List ak} {e i i' j:Nat} (hne:i' ≠ i) (hj:j+us.length<=e) (hl:i * e+j+us.length<=az.length):((wr az (i * e+j) us).drop (i' * e)).take e=(az.drop (i' * e)).take e:=by
 apply List.ext_getElem?
 intro t
 rw [List.getElem?_take,List.getElem?_take]
 split
 ·rename_i ht
  rw [List.getElem?_drop,List.getElem?_drop,tO _ _ _ _ hl,if_neg]
  intro ⟨h1,h2⟩
  rcases Nat.lt_or_ge i' i with h3 | h3
  ·have:i' * e+e<=i * e:=by rw [← Nat.succ_mul]; exact Nat.mul_le_mul_right e h3
   omega
  ·have:i * e+e<=i' * e:=by rw [← Nat.succ_mul]; exact Nat.mul_le_mul_right e (by omega)
   omega
 ·rfl
theorem CC {az us:List ak} {e i j:Nat} (hj:j+us.length<=e) (hl:i * e+e<=az.length):((wr az (i * e+j) us).drop (i * e)).take e=wr ((az.drop (i * e)).take e) j us:=by
 apply List.ext_getElem?
 intro t
 rw [tO _ _ _ _ (by simp; omega),List.getElem?_take]
 split
 ·rename_i ht
  rw [List.getElem?_drop,tO _ _ _ _ (by omega)]
  by_cases h1:j<=t/\t < j+us.length
  ·rw [if_pos h1,if_pos (by omega)]; congr 1; omega
  ·rw [if_neg h1,if_neg (by omega),List.getElem?_take,if_pos ht,List.getElem?_drop]
 ·rename_i ht
  rw [if_neg (by omega),List.getElem?_take,if_neg ht]
theorem tv:∀ {cs:List V} {off:Nat} {xs r:List V},oP cs off xs=some r->cs.all V.one=true->xs.all V.one=true->r.all V.one=true
 | cs,0,[],r,h,h1,h2=>by simp [oP] at h; subst h; exact h1
 | [],0,x::xs,r,h,h1,h2=>by simp [oP] at h
 | c::cs,0,x::xs,r,h,h1,h2=>by
   simp only [oP] at h
   split at h
   ·rename_i r' hr
    cases h
    simp only [List.all_cons,Bool.and_eq_true] at h1 h2 ⊢
    exact ⟨h2.1,tv hr h1.2 h2.2⟩
   ·cases h
 | [],off+1,xs,r,h,h1,h2=>by simp [oP] at h
 | c::cs,off+1,xs,r,h,h1,h2=>by
   simp only [oP] at h
   split at h
   ·rename_i r' hr
    cases h
    simp only [List.all_cons,Bool.and_eq_true] at h1 ⊢
    exact ⟨h1.1,tv hr h1.2 h2⟩
   ·cases h
theorem BV:∀ (cs:List V) (j:Nat) (xs:List V),j+xs.length<=cs.length->oP cs j xs=some (cs.take j++(xs++cs.drop (j+xs.length)))
 | cs,0,[],_=>by simp [oP]
 | [],0,x::xs,h=>by simp at h
 | c::cs,0,x::xs,h=>by
   simp only [oP]
   rw [BV cs 0 xs (by simp at h ⊢; omega)]
   simp
 | [],j+1,xs,h=>by simp at h
 | c::cs,j+1,xs,h=>by
   simp only [oP]
   rw [BV cs j xs (by simp at h; omega)]
   simp [show j+1+xs.length=(j+xs.length)+1 by omega]
theorem Eu (cs:List V) (j:Nat) (xs:List V):∀ (m t k:Nat),(Vb cs j xs t m)[k]? = if k < m then some (cond (Nat.ble j (t+k) && Nat.blt (t+k) (j+bD xs)) (GN xs (t+k - j)) (GN cs (t+k))) else none
 | 0,t,k=>by simp [Vb]
 | m+1,t,0=>by simp [Vb]
 | m+1,t,k+1=>by
   simp only [Vb,List.getElem?_cons_succ]
   rw [Eu cs j xs m (t+1) k,show t+1+k=t+(k+1) by omega]
   by_cases h:k < m
   ·rw [if_pos h,if_pos (by omega)]
   ·rw [if_neg h,if_neg (by omega)]
theorem q6 {l:List V} {i:Nat} (h:i < l.length):l[i]? = some (GN l i):=by
 unfold GN; rw [bb,List.getElem?_eq_getElem h]
theorem J3 {e:Nat} {cs:List V} (h:cs.length=e) (j:Nat) (xs:List V):wrE e cs j xs=oP cs j xs:=by
 unfold wrE
 rw [yac]
 cases hb:Nat.ble (j+xs.length) e with
 | false =>
   cases hw:oP cs j xs with
   | none=>rfl
   | some r =>
     have:=(nh hw).1
     rw [Nat.ble_eq_true_of_le (by omega)] at hb; cases hb
 | true =>
   have hle:=Nat.le_of_ble_eq_true hb
   rw [BV cs j xs (by omega)]
   simp only [cond_true,Option.some.injEq]
   apply List.ext_getElem?
   intro k
   rw [Eu,Nat.zero_add,yac,List.getElem?_append,List.getElem?_append,List.getElem?_take,List.getElem?_drop,List.length_take]
   by_cases h1:k < j
   ·have hb1:Nat.ble j k=false:=by
     cases hq:Nat.ble j k with
     | false=>rfl
     | true=>have:=Nat.le_of_ble_eq_true hq; omega
    rw [if_pos (by omega),if_pos (by omega),if_pos h1,hb1]
    exact (q6 (by omega)).symm
   ·have hb1:Nat.ble j k=true:=Nat.ble_eq_true_of_le (by omega)
    by_cases h2:k < j+xs.length
    ·have hb2:Nat.blt k (j+xs.length)=true:=Nat.ble_eq_true_of_le h2
     rw [if_pos (by omega),if_neg (by omega),if_pos (by omega),hb1,hb2,show min j cs.length=j by omega]
     exact (q6 (by omega)).symm
    ·have hb2:Nat.blt k (j+xs.length)=false:=by
      cases hq:Nat.blt k (j+xs.length) with
      | false=>rfl
      | true=>have:=Nat.le_of_ble_eq_true hq; omega
     have e1:j+xs.length+(k - min j cs.length - xs.length)=k:=by omega
     by_cases h3:k < e
     ·rw [if_pos h3,if_neg (by omega),if_neg (by omega),hb1,hb2,e1]; exact (q6 (by omega)).symm
     ·rw [if_neg h3,if_neg (by omega),if_neg (by omega),e1,List.getElem?_eq_none (by omega)]
theorem CG {v:V} (h:v.flat=true):v.cells.all V.one=true:=by
 cases v <;> first | exact h | (simp [V.flat,V.cells,V.one] at h ⊢)
theorem LE (hh:HR w0 ν nV nS h lh) {v:V} {xs:List V} {us:List ak} {a:ak} (hv:vr w0 ν.z ν v a) (hx:bf w0 ν.z ν xs us) (ho:xs.all V.one=true) (hl:Uq h xs v=some h') (hpe:∀ k i j,v=.pe k i j->∀ e n f ty,h[k]? = some (.gl e n f ty)->i < n) :
 ∃ b off cs ty k c e,a=.ptr (some (.l b off))/\lh[b]? = some (.cells cs ty)/\off+us.length<=cs.length/\HR w0 ν nV nS h' (lh.set b (.cells (wr cs off us) ty))/\iG h v=some [k]/\ν k=some (some (b,c,e)):=by
 unfold Uq at hl
 split at hl
 ·rename_i k off
  rw [bb] at hl
  split at hl
  ·rename_i cs ty hk
   split at hl
   ·rename_i r hr
    cases hl
    obtain ⟨b,c,e,az,h1,h2,h3⟩:=hh.blk k _ hk
    simp only [vr] at hv
    obtain ⟨b',c',e',h4,rfl⟩:=hv
    rw [h1] at h4
    obtain ⟨rfl,rfl,rfl⟩:_=b'/\_=c'/\_=e':=by simpa using h4
    have hlv:=dd hk
    have hlt:=(List.getElem?_eq_some_iff.1 h2).1
    refine ⟨b,off,az,ty,k,c,e,rfl,h2,by have:=nh hr; have:=bw h3; have:=bw hx; omega,?_,?_,h1⟩
    ·rw [gr]
     refine hh.set hlv h1 (by rw [h2]; rfl) rfl ⟨b,c,e,wr az off us,h1,by simp [hlt],uA h3 hx hr⟩
    ·simp only [iG]; unfold aV at hlv; rw [hlv]; rfl
   ·cases hl
  ·cases hl
 ·rename_i k i j
  rw [bb] at hl
  split at hl
  ·rename_i e n f ty hk
   cases hbl:Nat.ble (j+bD xs) e with
   | false=>rw [hbl] at hl; cases hl
   | true =>
     rw [hbl] at hl
     cases hl
     have hr:wrE e (f i) j xs=some (Vb (f i) j xs 0 e):=by unfold wrE; rw [hbl]; rfl
     revert hr
     generalize hgr:Vb (f i) j xs 0 e=r
     intro hr
     have hi:=hpe k i j rfl _ _ _ _ hk
     simp only [vr] at hv
     obtain ⟨b',c',e',h4,rfl⟩:=hv
     have hlv:=ff hk
     rcases hh.blk k _ hk with ⟨h1,h2⟩ | ⟨b,c,az,h1,h2,h3,hn,h5⟩
     ·omega
     ·rw [h1] at h4
      obtain ⟨rfl,rfl,rfl⟩:_=b'/\_=c'/\_=e':=by simpa using h4
      have hlt:=(List.getElem?_eq_some_iff.1 h2).1
      obtain ⟨hok,hvs⟩:=h5 i hi
      have hlx:=bw hx
      have hlen:=bw hvs
      unfold kS at hok
      simp only [Bool.and_eq_true] at hok
      have h8:=Nat.eq_of_beq_eq_true hok.1
      rw [yac] at h8
      rw [J3 h8] at hr
      have hwl:=nh hr
      have hle:i * e+e<=c * e:=by rw [← Nat.succ_mul]; exact Nat.mul_le_mul_right e (by omega)
      refine ⟨b,i * e+j,az,ty,k,c,e,rfl,h2,by omega,?_,?_,h1⟩
      ·rw [gr]
       refine hh.set hlv h1 (by rw [h2]; rfl) rfl (.inr ⟨b,c,wr az (i * e+j) us,h1,by simp [hlt],by rw [m7]; exact h3,hn,fun i' hi'=>?_⟩)
       by_cases he:i'=i
       ·subst he
        simp only [Tr,Nat.beq_refl,cond_true,hgr]
        refine ⟨?_,?_⟩
        ·unfold kS
         simp only [Bool.and_eq_true]
         exact ⟨by rw [yac,hwl.2,h8]; simp,tv hr hok.2 ho⟩
        ·rw [CC (by omega) (by omega)]
         exact uA hvs hx hr
       ·have:Nat.beq i' i=false:=by
         cases hb:Nat.beq i' i with
         | false=>rfl
         | true=>exact (he (Nat.eq_of_beq_eq_true hb)).elim
        simp only [Tr,this,cond_false]
        refine ⟨(h5 i' hi').1,?_⟩
        rw [zK he (by omega) (by omega)]
        exact (h5 i' hi').2
      ·simp only [iG]; unfold aV at hlv; rw [hlv]; rfl
  ·cases hl
 ·cases hl
end
section
variable {w0:World} {ν ν':Nu} {nV nS N:Nat} {h h':List O} {lh lh':List ap} {α:Type} {LP:d7} {Q:α->Prop} {e:bp} {sl:List ak} {ctx:Bool}
theorem dQ:∀ {n:Nat} {p:Nat->Bool},cq n p=true->∀ i,i < n->p i=true
 | 0,p,_,i,hi=>by omega
 | n+1,p,hp,i,hi=>by
   simp only [cq,Bool.and_eq_true] at hp
   by_cases e:i=n
   ·subst e; exact hp.2
   ·exact dQ hp.1 i (by omega)
theorem er:∀ {n:Nat} {p:Nat->Bool},(∀ i,i < n->p i=true)->cq n p=true
 | 0,p,_=>rfl
 | n+1,p,hp=>by simp only [cq,Bool.and_eq_true]; exact ⟨er fun i hi=>hp i (by omega),hp n (by omega)⟩
theorem rz {a:Addr}:∀ (n i:Nat),(∀ t,t < n->∃ v,w0.cell? (a.add (i+t))=some v)->∃ az,fm w0 a i n=some az
 | 0,i,_=>⟨[],rfl⟩
 | n+1,i,hc=>by
   obtain ⟨v,hv⟩:=hc 0 (by omega)
   obtain ⟨az,has⟩:=rz n (i+1) (fun t ht=>by have:=hc (t+1) (by omega); rw [show i+1+t=i+(t+1) by omega]; exact this)
   exact ⟨bo v::az,by simp only [fm,has]; simp only [Nat.add_zero] at hv; rw [hv]⟩
theorem kX {esz:Nat} {l:List V} (ho:kS esz l=true):l.length=esz/\l.all V.one=true:=by
 unfold kS at ho
 simp only [Bool.and_eq_true] at ho
 exact ⟨by rw [← yac]; exact Nat.eq_of_beq_eq_true ho.1,ho.2⟩
theorem CY {esz:Nat} {l:List V} (h1:l.length=esz) (h2:l.all V.one=true):kS esz l=true:=by
 unfold kS; rw [yac,h1,h2]; simp
theorem hJ {esz:Nat}:∀ {n:Nat} {az:List ak},az.length=n * esz->(∀ i,i < n->((az.drop (i * esz)).take esz).all ak.one=true)->az.all ak.one=true
 | 0,az,hl,_=>by simp at hl; subst hl; rfl
 | n+1,az,hl,hc=>by
   rw [← List.take_append_drop esz az,List.all_append,Bool.and_eq_true]
   refine ⟨by have:=hc 0 (by omega); simpa using this,hJ (esz:=esz) (n:=n) (by simp [hl,Nat.succ_mul]) (fun i hi=>?_)⟩
   have:=hc (i+1) (by omega)
   rw [List.drop_drop,show esz+i * esz=(i+1) * esz by rw [Nat.succ_mul]; omega]
   exact this
theorem lr {az:List ak} {n esz i:Nat} (hi:i < n):((az.take (n * esz)).drop (i * esz)).take esz=(az.drop (i * esz)).take esz:=by
 have:i * esz+esz<=n * esz:=by rw [← Nat.succ_mul]; exact Nat.mul_le_mul_right esz hi
 rw [List.drop_take,List.take_take,Nat.min_eq_left (by omega)]
theorem G6 {α:Type} {az:List α} {n esz i:Nat} (hl:az.length=n * esz) (hi:i < n):((az.drop (i * esz)).take esz).length=esz:=by
 have:i * esz+esz<=n * esz:=by rw [← Nat.succ_mul]; exact Nat.mul_le_mul_right esz hi
 simp; omega
theorem Ec {α:Type} {p:α->Bool} {l:List α} (a b:Nat) (hl:l.all p=true):((l.drop a).take b).all p=true:=by
 rw [List.all_eq_true] at *
 exact fun x hx=>hl x (List.mem_of_mem_drop (List.mem_of_mem_take hx))
theorem GB (hh:HR w0 ν nV nS h lh) {x:V} {a:ak} {esz m:Nat} {g:Nat->List V} (hv:vr w0 ν.z ν x a) (hs:BG h esz x=some (m,g,true)) :
 ∃ q c new,a=.slice q m c/\cellsOf w0 lh q (m * esz)=some new/\new.length=m * esz/\new.all ak.one=true/\∀ i,i < m->kS esz (g i)=true/\bf w0 ν.z ν (g i) ((new.drop (i * esz)).take esz):=by
 unfold BG at hs
 split at hs
 ·cases hs
  simp only [vr] at hv; subst hv
  exact ⟨none,0,[],rfl,by simp [cellsOf],by simp,rfl,fun i hi=>by omega⟩
 ·rename_i n f
  simp only [Option.some.injEq,Prod.mk.injEq] at hs
  obtain ⟨rfl,rfl,hok⟩:=hs
  have hok:=dQ hok
  simp only [vr] at hv
  obtain ⟨p,c,esz',rfl,_,_,hp,hel⟩:=hv
  cases n with
  | zero =>
    refine ⟨p,c,[],rfl,?_,by simp,rfl,fun i hi=>by omega⟩
    cases p with
    | none=>simp [cellsOf]
    | some q=>cases q with
      | l k off=>obtain ⟨cs,ty,h1,h2⟩:=hp; simp [cellsOf,lds,hh.zl _ _ _ h1,h2]
      | g a=>simp [cellsOf,lds,fm]
  | succ n =>
    obtain ⟨q,as0,rfl,hl0,hv0⟩:=hel 0 (by omega)
    have hsz:esz'=esz:=by
     have:=pF hl0
     have h1:=bw hv0.1
     have h2:=(kX (hok 0 (by omega))).1
     omega
    subst hsz
    cases q with
    | l k off =>
      have hel':∀ i,i < n+1->∃ cs ty,ν.z[k]? = some (.cells cs ty)/\off+i * esz'+esz'<=cs.length/\bf w0 ν.z ν (f i) ((cs.drop (off+i * esz')).take esz'):=fun i hi=>by
       obtain ⟨q',az,e1,e2,e3,_⟩:=hel i hi
       cases e1
       simp only [gA.add,lds] at e2
       split at e2
       ·rename_i cs ty hk
        split at e2
        ·rename_i hle
         cases e2
         exact ⟨cs,ty,hk,hle,jh (Nu.nil_sub ν) _ _ e3⟩
        ·cases e2
       ·cases e2
      obtain ⟨cs,ty,c1,c2,_⟩:=hel' n (by omega)
      have hm:(n+1) * esz'=n * esz'+esz':=Nat.succ_mul n esz'
      have hlen:((cs.drop off).take ((n+1) * esz')).length=(n+1) * esz':=by simp; omega
      have hch:∀ i,i < n+1->kS esz' (f i)=true/\bf w0 ν.z ν (f i) ((((cs.drop off).take ((n+1) * esz')).drop (i * esz')).take esz'):=fun i hi=>by
       obtain ⟨cs',ty',d1,d2,d3⟩:=hel' i hi
       rw [c1] at d1; cases d1
       refine ⟨hok i hi,?_⟩
       rw [lr hi,List.drop_drop]
       exact d3
      refine ⟨_,c,_,rfl,?_,hlen,hJ hlen fun i hi=>i9 (hch i hi).2 (kX (hch i hi).1).2,hch⟩
      simp only [cellsOf,lds,hh.zl _ _ _ c1]
      rw [if_pos (by omega)]
    | g a =>
      have hel':∀ i,i < n+1->∃ az,fm w0 (a.add (i * esz')) 0 esz'=some az/\bf w0 ν.z ν (f i) az:=fun i hi=>by
       obtain ⟨q',az,e1,e2,e3,_⟩:=hel i hi
       cases e1
       exact ⟨az,e2,jh (Nu.nil_sub ν) _ _ e3⟩
      obtain ⟨new,hnew⟩:=rz (w0:=w0) (a:=a) ((n+1) * esz') 0 (fun t ht=>by
       by_cases he:esz'=0
       ·subst he; simp at ht
       ·have hi:t / esz' < n+1:=by
         rw [Nat.div_lt_iff_lt_mul (by omega)]; exact ht
        obtain ⟨az,e1,_⟩:=hel' _ hi
        obtain ⟨vs,_,hl,hc⟩:=dX _ _ _ e1
        have hm:t % esz' < vs.length:=by rw [hl]; exact Nat.mod_lt _ (by omega)
        have:=hc (t % esz') _ (List.getElem?_eq_getElem hm)
        rw [w4] at this
        rw [Nat.zero_add] at this
        rw [Nat.mul_comm,Nat.div_add_mod] at this
        exact ⟨_,by rw [Nat.zero_add]; exact this⟩)
      have hlen:new.length=(n+1) * esz':=by
       obtain ⟨vs,rfl,h2,_⟩:=dX _ 0 new hnew
       simpa using h2
      have hch:∀ i,i < n+1->kS esz' (f i)=true/\bf w0 ν.z ν (f i) ((new.drop (i * esz')).take esz'):=fun i hi=>by
       obtain ⟨az,e1,e2⟩:=hel' i hi
       have hle:i * esz'+esz'<=(n+1) * esz':=by rw [← Nat.succ_mul]; exact Nat.mul_le_mul_right esz' hi
       have:=uH hnew hle
       rw [e1] at this
       cases this
       exact ⟨hok i hi,e2⟩
      exact ⟨_,c,new,rfl,hnew,hlen,hJ hlen fun i hi=>i9 (hch i hi).2 (kX (hch i hi).1).2,hch⟩
 ·rename_i k n
  rw [bb] at hs
  split at hs
  ·rename_i e n' f ty hk
   cases he:Nat.beq e esz with
   | false=>rw [he] at hs; cases hs
   | true =>
     rw [he] at hs
     have:=Nat.eq_of_beq_eq_true he
     subst this
     simp only [cond_true,Option.some.injEq,Prod.mk.injEq] at hs
     obtain ⟨rfl,rfl,hle⟩:=hs
     have hle:=Nat.le_of_ble_eq_true hle
     simp only [vr] at hv
     rcases hh.blk k _ hk with ⟨h1,h2⟩ | ⟨b,c,az,h1,h2,h3,hn,h5⟩
     ·rcases hv with ⟨_,h3,h4⟩ | ⟨b,c,e,h3,_⟩
      ·subst h3 h4
       exact ⟨none,0,[],rfl,by simp [cellsOf],by simp,rfl,fun i hi=>by omega⟩
      ·rw [h1] at h3; cases h3
     ·rcases hv with ⟨h6,_⟩ | ⟨b',c',e',h6,rfl,hnc0⟩
      ·rw [h1] at h6; cases h6
      ·rw [h1] at h6
       obtain ⟨rfl,rfl,rfl⟩:_=b'/\_=c'/\_=e':=by simpa using h6
       have hnc:n * e<=c * e:=Nat.mul_le_mul_right e (by omega)
       have hlen:(az.take (n * e)).length=n * e:=by simp; omega
       have hch:∀ i,i < n->kS e (f i)=true/\bf w0 ν.z ν (f i) (((az.take (n * e)).drop (i * e)).take e):=fun i hi=>by
        rw [lr hi]; exact h5 i (by omega)
       refine ⟨_,c,az.take (n * e),rfl,?_,hlen,hJ hlen fun i hi=>i9 (hch i hi).2 (kX (hch i hi).1).2,hch⟩
       simp only [cellsOf,lds,h2]
       rw [if_pos (by omega)]; simp
  ·cases hs
 ·rename_i k off n c0
  rw [bb] at hs
  split at hs
  ·rename_i cs ty hk
   split at hs
   ·rename_i ds hds
    cases hd:ds.all V.one with
    | false=>rw [hd] at hs; cases hs
    | true =>
      rw [hd] at hs
      simp only [cond_true] at hs
      obtain ⟨g1,rfl⟩:=qh hds
      obtain ⟨b,c,e,az,h1,h2,h3⟩:=hh.blk k _ hk
      simp only [vr] at hv
      obtain ⟨b',c',e',h4,rfl⟩:=hv
      rw [h1] at h4
      obtain ⟨rfl,rfl,rfl⟩:_=b'/\_=c'/\_=e':=by simpa using h4
      have hal:=bw h3
      have hvs:=gt (n * esz) (fv off h3)
      have hlen:((az.drop off).take (n * esz)).length=n * esz:=by simp; omega
      have hlenV:((cs.drop off).take (n * esz)).length=n * esz:=by simp; omega
      have hcl:cellsOf w0 lh (some (.l b off)) (n * esz)=some ((az.drop off).take (n * esz)):=by
       simp only [cellsOf,lds,h2]; rw [if_pos (by omega)]
      have hone:=i9 hvs hd
      split at hs
      ·simp only [Option.some.injEq,Prod.mk.injEq] at hs
       obtain ⟨rfl,rfl,_⟩:=hs
       refine ⟨_,c0,_,rfl,hcl,hlen,hone,fun i hi=>?_⟩
       have:i=0:=by omega
       subst this
       simp only [Nat.one_mul] at *
       refine ⟨CY hlenV hd,?_⟩
       simp only [Nat.zero_mul,List.drop_zero,List.take_take,Nat.min_self]
       exact hvs
      ·simp only [Option.some.injEq,Prod.mk.injEq] at hs
       obtain ⟨rfl,rfl,_⟩:=hs
       exact ⟨_,c0,_,rfl,hcl,hlen,hone,fun i hi=>⟨CY (G6 hlenV hi) (Ec _ _ hd),gt esz (fv (i * esz) hvs)⟩⟩
   ·cases hs
  ·cases hs
 ·rename_i k off n
  rw [bb] at hs
  split at hs
  ·rename_i e n' f ty hk
   cases he:Nat.beq e esz with
   | false=>rw [he] at hs; cases hs
   | true =>
     rw [he] at hs
     have:=Nat.eq_of_beq_eq_true he
     subst this
     simp only [cond_true,Option.some.injEq,Prod.mk.injEq] at hs
     obtain ⟨rfl,rfl,hle⟩:=hs
     have hle:=Nat.le_of_ble_eq_true hle
     simp only [vr] at hv
     rcases hh.blk k _ hk with ⟨h1,h2⟩ | ⟨b,c,az,h1,h2,h3,hn,h5⟩
     ·rcases hv with ⟨_,h3,_,h4⟩ | ⟨b,c,e,o,h3,_⟩
      ·subst h3 h4
       exact ⟨none,0,[],rfl,by simp [cellsOf],by simp,rfl,fun i hi=>by omega⟩
      ·rw [h1] at h3; cases h3
     ·rcases hv with ⟨h6,_⟩ | ⟨b',c',e',o,h6,rfl,⟨hoc,ho1⟩,ho2⟩
      ·rw [h1] at h6; cases h6
      ·rw [h1] at h6
       obtain ⟨rfl,rfl,rfl⟩:_=b'/\_=c'/\_=e':=by simpa using h6
       by_cases hn0:n=0
       ·subst hn0
        refine ⟨_,c - off,[],rfl,?_,by simp,rfl,fun i hi=>by omega⟩
        simp only [cellsOf,lds,h2]
        rw [if_pos (by omega)]; simp
       ·have ho:=ho2 (by omega)
        subst ho
        have hnc:off * e+n * e<=c * e:=by rw [← Nat.add_mul]; exact Nat.mul_le_mul_right e hoc
        have hlen:((az.drop (off * e)).take (n * e)).length=n * e:=by simp; omega
        have hch:∀ i,i < n->kS e (f (off+i))=true/\bf w0 ν.z ν (f (off+i)) ((((az.drop (off * e)).take (n * e)).drop (i * e)).take e):=fun i hi=>by
         rw [lr hi,List.drop_drop,← Nat.add_mul]; exact h5 (off+i) (by omega)
        refine ⟨_,c - off,(az.drop (off * e)).take (n * e),rfl,?_,hlen,hJ hlen fun i hi=>i9 (hch i hi).2 (kX (hch i hi).1).2,hch⟩
        simp only [cellsOf,lds,h2]
        rw [if_pos (by omega)]
  ·cases hs
 ·cases hs
theorem FU {esz n m:Nat} {f g:Nat->List V} {old new tail az:List ak} (has:az=old++new++tail) (ho:old.length=n * esz) (hn:new.length=m * esz)
 (h1:∀ i,i < n->kS esz (f i)=true/\bf w0 ν.z ν (f i) ((old.drop (i * esz)).take esz)) (h2:∀ i,i < m->kS esz (g i)=true/\bf w0 ν.z ν (g i) ((new.drop (i * esz)).take esz)) :
 ∀ i,i < n+m->kS esz (bA n f g i)=true/\bf w0 ν.z ν (bA n f g i) ((az.drop (i * esz)).take esz):=by
 intro i hi
 subst has
 unfold bA
 by_cases hlt:i < n
 ·have hb:Nat.blt i n=true:=Nat.ble_eq_true_of_le hlt
  rw [hb]
  have:i * esz+esz<=n * esz:=by rw [← Nat.succ_mul]; exact Nat.mul_le_mul_right esz hlt
  simp only [cond_true]
  rw [List.append_assoc,List.drop_append_of_le_length (by omega),List.take_append_of_le_length (by simp; omega)]
  exact h1 i hlt
 ·have hb:Nat.blt i n=false:=by
   cases hb:Nat.blt i n with
   | false=>rfl
   | true=>have:=Nat.le_of_ble_eq_true hb; omega
  rw [hb]
  have hi':i - n < m:=by omega
  have e1:i * esz=n * esz+(i - n) * esz:=by rw [← Nat.add_mul]; congr 1; omega
  have e2:(i - n) * esz+esz<=m * esz:=by rw [← Nat.succ_mul]; exact Nat.mul_le_mul_right esz hi'
  simp only [cond_false]
  rw [e1,← List.drop_drop,List.append_assoc,← ho,List.drop_left,List.drop_append_of_le_length (by omega),List.take_append_of_le_length (by simp; omega)]
  exact h2 _ hi'
theorem hide_get {k j:Nat} {o:O} (hj:(h.set k .hid)[j]? = some o) (ho:o ≠ .hid):h[j]? = some o/\j ≠ k:=by
 rw [List.getElem?_set] at hj
 split at hj
 ·split at hj
  ·cases hj; exact (ho rfl).elim
  ·cases hj
 ·rename_i hne; exact ⟨hj,fun e=>hne e.symm⟩
theorem HR.move (hh:HR w0 ν nV nS h lh) {p k b c e esz n:Nat} {f:Nat->List V} {ty:TypeId} {az:List ak} (hp:ν p=none) (hpl:p < h'.length) (hk:ν k=some (some (b,c,e))) (hlk:aV h k)
 (ho:h'[p]? = some (.gl esz n f ty)) (hoth:∀ j,j ≠ p->h'[j]? = (h.set k .hid)[j]?) (hlb:∃ as0 t0,lh[b]? = some (.cells as0 t0))
 (hlen:az.length=c * esz) (hn:n<=c/\n<=9223372036854775807) (hel:∀ i,i < n->kS esz (f i)=true/\bf w0 ν.z ν (f i) ((az.drop (i * esz)).take esz)) :
 HR w0 (sF ν p (some (b,c,esz))) nV nS h' (lh.set b (.cells az ty))/\ν.sub (sF ν p (some (b,c,esz))):=by
 have hs:=gX (x:=some (b,c,esz)) hp
 have hpk:p ≠ k:=fun e1=>by subst e1; rw [hp] at hk; cases hk
 obtain ⟨as0,t0,hb0⟩:=hlb
 have hbl:=(List.getElem?_eq_some_iff.1 hb0).1
 have hlive:∀ j,j ≠ p->aV h' j->aV h j/\j ≠ k:=fun j hj hl=>by
  rcases eh hl with ⟨_,_,g⟩ | ⟨_,_,_,_,g⟩
  ·rw [hoth j hj] at g
   obtain ⟨g1,g2⟩:=hide_get g (by simp)
   exact ⟨dd g1,g2⟩
  ·rw [hoth j hj] at g
   obtain ⟨g1,g2⟩:=hide_get g (by simp)
   exact ⟨ff g1,g2⟩
 refine ⟨⟨fun j o hj=>?_,fun j j' x x' h1 h2 h3 h4 h5=>?_,fun j hj=>?_,fun j x hj=>?_,fun j as' ty' hj=>?_,fun j x hj hx=>?_⟩,hs⟩
 ·by_cases e1:j=p
  ·subst e1
   rw [ho] at hj; cases hj
   exact .inr ⟨b,c,az,d4 _ _ _,by simp [hbl],hlen,hn,fun i hi=>⟨(hel i hi).1,Bb hs _ _ (hel i hi).2⟩⟩
  ·rw [hoth j e1] at hj
   by_cases hh1:o=.hid
   ·subst hh1; trivial
   ·obtain ⟨g1,g2⟩:=hide_get hj hh1
    by_cases hd:o=.dead
    ·subst hd
     obtain ⟨k1,k2,k3⟩:=hh.blk j _ g1
     refine ⟨by rw [d5,if_neg e1]; exact k1,k2,?_⟩
     rw [List.getElem?_set,if_neg (fun e2=>by rw [← e2,hb0] at k3; cases k3)]; exact k3
    ·refine cS hs hd (fun b' as' ty' q1 q2=>?_) (hh.blk j _ g1)
     rw [List.getElem?_set,if_neg]
     ·exact q1
     ·intro e2
      subst e2
      obtain ⟨c',e',q3⟩:=q2
      have hlj:aV h j:=by
       unfold aV d6; rw [bb,g1]
       cases o <;> first | rfl | exact (hd rfl).elim | exact (hh1 rfl).elim
      exact g2 (hh.inj j k _ _ hlj hlk q3 hk rfl)
 ·rw [d5] at h3 h4
  by_cases e1:j=p <;> by_cases e2:j'=p
  ·rw [e1,e2]
  ·rw [if_pos e1] at h3; rw [if_neg e2] at h4; cases h3
   obtain ⟨g1,g2⟩:=hlive j' e2 h2
   exact absurd (hh.inj j' k _ _ g1 hlk h4 hk h5.symm) g2
  ·rw [if_neg e1] at h3; rw [if_pos e2] at h4; cases h4
   obtain ⟨g1,g2⟩:=hlive j e1 h1
   exact absurd (hh.inj j k _ _ g1 hlk h3 hk h5) g2
  ·rw [if_neg e1] at h3; rw [if_neg e2] at h4
   exact hh.inj j j' x x' (hlive j e1 h1).1 (hlive j' e2 h2).1 h3 h4 h5
 ·have e1:j ≠ p:=fun e1=>by subst e1; omega
  rw [d5,if_neg e1]
  apply hh.dom
  have:=hoth j e1
  rw [List.getElem?_eq_none hj] at this
  have:=List.getElem?_eq_none_iff.1 this.symm
  simpa using this
 ·rw [d5] at hj
  split at hj
  ·cases hj; simpa using hbl
  ·simpa using hh.rng j x hj
 ·have hj':ν.z[j]? = some (.cells as' ty'):=hj
  rw [List.getElem?_set,if_neg fun e2=>?_]
  ·exact hh.zl j as' ty' hj'
  ·subst e2; exact kt (hh.zn k _ hlk hk) _ _ hj'
 ·rw [d5] at hx
  by_cases e1:j=p
  ·rw [if_pos e1] at hx; cases hx; exact hh.zn k (b,c,e) hlk hk
  ·rw [if_neg e1] at hx; exact hh.zn j x (hlive j e1 hj).1 hx
theorem HR.renu (hh:HR w0 ν nV nS h lh) {p k b c e esz:Nat} {f:Nat->List V} {ty:TypeId} {az:List ak} (hp:ν p=none) (hpl:p < h'.length) (hk:ν k=some (some (b,c,e))) (hlk:aV h k)
 (ho:h'[p]? = some (.gl esz 0 f ty)) (hoth:∀ j,j ≠ p->h'[j]? = (h.set k .hid)[j]?) (hlb:∃ as0 t0,lh[b]? = some (.cells as0 t0)) (has:az=[]) :
 HR w0 (sF ν p (some (b,0,esz))) nV nS h' (lh.set b (.cells az ty))/\ν.sub (sF ν p (some (b,0,esz))):=by
 subst has
 have hs:=gX (x:=some (b,0,esz)) hp
 have hpk:p ≠ k:=fun e1=>by subst e1; rw [hp] at hk; cases hk
 obtain ⟨as0,t0,hb0⟩:=hlb
 have hbl:=(List.getElem?_eq_some_iff.1 hb0).1
 have hlive:∀ j,j ≠ p->aV h' j->aV h j/\j ≠ k:=fun j hj hl=>by
  rcases eh hl with ⟨_,_,g⟩ | ⟨_,_,_,_,g⟩
  ·rw [hoth j hj] at g
   obtain ⟨g1,g2⟩:=hide_get g (by simp)
   exact ⟨dd g1,g2⟩
  ·rw [hoth j hj] at g
   obtain ⟨g1,g2⟩:=hide_get g (by simp)
   exact ⟨ff g1,g2⟩
 refine ⟨⟨fun j o hj=>?_,fun j j' x x' h1 h2 h3 h4 h5=>?_,fun j hj=>?_,fun j x hj=>?_,fun j as' ty' hj=>?_,fun j x hj hx=>?_⟩,hs⟩
 ·by_cases e1:j=p
  ·subst e1
   rw [ho] at hj; cases hj
   exact .inr ⟨b,0,[],d4 _ _ _,by simp [hbl],by simp,⟨Nat.le_refl _,by omega⟩,fun i hi=>by omega⟩
  ·rw [hoth j e1] at hj
   by_cases hh1:o=.hid
   ·subst hh1; trivial
   ·obtain ⟨g1,g2⟩:=hide_get hj hh1
    by_cases hd:o=.dead
    ·subst hd
     obtain ⟨k1,k2,k3⟩:=hh.blk j _ g1
     refine ⟨by rw [d5,if_neg e1]; exact k1,k2,?_⟩
     rw [List.getElem?_set,if_neg (fun e2=>by rw [← e2,hb0] at k3; cases k3)]; exact k3
    ·refine cS hs hd (fun b' as' ty' q1 q2=>?_) (hh.blk j _ g1)
     rw [List.getElem?_set,if_neg]
     ·exact q1
     ·intro e2
      subst e2
      obtain ⟨c',e',q3⟩:=q2
      have hlj:aV h j:=by
       unfold aV d6; rw [bb,g1]
       cases o <;> first | rfl | exact (hd rfl).elim | exact (hh1 rfl).elim
      exact g2 (hh.inj j k _ _ hlj hlk q3 hk rfl)
 ·rw [d5] at h3 h4
  by_cases e1:j=p <;> by_cases e2:j'=p
  ·rw [e1,e2]
  ·rw [if_pos e1] at h3; rw [if_neg e2] at h4; cases h3
   obtain ⟨g1,g2⟩:=hlive j' e2 h2
   exact absurd (hh.inj j' k _ _ g1 hlk h4 hk h5.symm) g2
  ·rw [if_neg e1] at h3; rw [if_pos e2] at h4; cases h4
   obtain ⟨g1,g2⟩:=hlive j e1 h1
   exact absurd (hh.inj j k _ _ g1 hlk h3 hk h5) g2
  ·rw [if_neg e1] at h3; rw [if_neg e2] at h4
   exact hh.inj j j' x x' (hlive j e1 h1).1 (hlive j' e2 h2).1 h3 h4 h5
 ·have e1:j ≠ p:=fun e1=>by subst e1; omega
  rw [d5,if_neg e1]
  apply hh.dom
  have:=hoth j e1
  rw [List.getElem?_eq_none hj] at this
  have:=List.getElem?_eq_none_iff.1 this.symm
  simpa using this
 ·rw [d5] at hj
  split at hj
  ·cases hj; simpa using hbl
  ·simpa using hh.rng j x hj
 ·have hj':ν.z[j]? = some (.cells as' ty'):=hj
  rw [List.getElem?_set,if_neg fun e2=>?_]
  ·exact hh.zl j as' ty' hj'
  ·subst e2; exact kt (hh.zn k _ hlk hk) _ _ hj'
 ·rw [d5] at hx
  by_cases e1:j=p
  ·rw [if_pos e1] at hx; cases hx; exact hh.zn k (b,c,e) hlk hk
  ·rw [if_neg e1] at hx; exact hh.zn j x (hlive j e1 hj).1 hx
theorem HR.virt (hh:HR w0 ν nV nS h lh) {p:Nat} {esz:Nat} {f:Nat->List V} {ty:TypeId} (hp:ν p=none) (hpl:p < h'.length) (ho:h'[p]? = some (.gl esz 0 f ty)) (hoth:∀ j,j ≠ p->h'[j]? = h[j]?) :
 HR w0 (sF ν p none) nV nS h' lh/\ν.sub (sF ν p none):=by
 have hs:=gX (x:=none) hp
 have hlive:∀ j,j ≠ p->aV h' j->aV h j:=fun k hk hl=>by unfold aV d6 at *; rw [bb] at *; rw [hoth k hk] at hl; exact hl
 refine ⟨⟨fun j o hj=>?_,fun j j' x x' h1 h2 h3 h4 h5=>?_,fun j hj=>?_,fun j x hj=>?_,hh.zl,fun j x hj hx=>?_⟩,hs⟩
 ·by_cases e1:j=p
  ·subst e1
   rw [ho] at hj; cases hj
   exact .inl ⟨d4 _ _ _,rfl⟩
  ·rw [hoth j e1] at hj
   by_cases hd:o=.dead
   ·subst hd
    obtain ⟨k1,k2,k3⟩:=hh.blk j _ hj
    exact ⟨by rw [d5,if_neg e1]; exact k1,k2,k3⟩
   ·exact cS hs hd (fun _ _ _ q _=>q) (hh.blk j _ hj)
 ·rw [d5] at h3 h4
  by_cases e1:j=p
  ·rw [if_pos e1] at h3; cases h3
  ·by_cases e2:j'=p
   ·rw [if_pos e2] at h4; cases h4
   ·rw [if_neg e1] at h3; rw [if_neg e2] at h4
    exact hh.inj j j' x x' (hlive j e1 h1) (hlive j' e2 h2) h3 h4 h5
 ·have e1:j ≠ p:=fun e1=>by subst e1; omega
  rw [d5,if_neg e1]
  apply hh.dom
  have:=hoth j e1
  rw [List.getElem?_eq_none hj] at this
  exact List.getElem?_eq_none_iff.1 this.symm
 ·rw [d5] at hj
  split at hj
  ·cases hj
  ·exact hh.rng j x hj
 ·rw [d5] at hx
  by_cases e1:j=p
  ·rw [if_pos e1] at hx; cases hx
  ·rw [if_neg e1] at hx; exact hh.zn j x (hlive j e1 hj) hx
theorem nf {pl:Option Nat} {o:O} {K:Nat->List O->T α} (hh:HR w0 ν nV nS h lh) (hs:bn LP (eY pl h o K) Q):∃ p h',ν p=none/\p < h'.length/\h'[p]? = some o/\(∀ j,j ≠ p->h'[j]? = h[j]?)/\(pl=none ∨ (pl=some p/\h'=h.set p o/\p < h.length))/\bn LP (K p h') Q:=by
 unfold eY at hs
 split at hs
 ·rw [yac,p9] at hs
  refine ⟨_,_,hh.dom h.length (Nat.le_refl _),by simp,by simp,fun k hk=>?_,.inl rfl,hs⟩
  rw [List.getElem?_append]; split
  ·rfl
  ·rw [List.getElem?_eq_none (by simp; omega),List.getElem?_eq_none (by omega)]
 ·rename_i p
  rw [bb] at hs
  split at hs
  ·rename_i hd
   rw [gr] at hs
   have hlt:=(List.getElem?_eq_some_iff.1 hd).1
   exact ⟨_,_,(hh.blk p _ hd).1,by simpa using hlt,by simp [hlt],fun k hk=>by simp [hk.symm],.inr ⟨rfl,rfl,hlt⟩,hs⟩
  ·exact hs.elim
theorem P6 {az us:List ak} {off:Nat} (hl:off+us.length<=az.length):wr az off us=az.take off++us++az.drop (off+us.length):=by
 apply List.ext_getElem?
 intro t
 rw [tO _ _ _ _ hl,List.append_assoc,List.getElem?_append]
 have h1:(az.take off).length=off:=by simp; omega
 rw [h1]
 by_cases h2:t < off
 ·rw [if_neg (by omega),if_pos h2,List.getElem?_take,if_pos h2]
 ·rw [if_neg h2,List.getElem?_append]
  by_cases h3:t < off+us.length
  ·rw [if_pos ⟨by omega,h3⟩,if_pos (by omega)]
  ·rw [if_neg (by omega),if_neg (by omega),List.getElem?_drop]; congr 1; omega
theorem GR {z:List ak} (n:Nat):(List.replicate n z).flatten.length=n * z.length:=by
 induction n with
 | zero=>simp
 | succ n ih=>rw [List.replicate_succ,List.flatten_cons,List.length_append,ih,Nat.succ_mul]; omega
theorem pK {p j:Nat} {o:O} (hl:aV (h.set p o) j):aV h j ∨ p=j:=by
 by_cases e:p=j
 ·exact .inr e
 ·left; unfold aV d6 at *; rw [bb] at *; rw [List.getElem?_set,if_neg e] at hl; exact hl
theorem wa {k j:Nat} (hl:aV (h.set k .hid) j):aV h j:=by
 rcases eh hl with ⟨_,_,g⟩ | ⟨_,_,_,_,g⟩
 ·exact dd (hide_get g (by simp)).1
 ·exact ff (hide_get g (by simp)).1
theorem xQ {p k:Nat} {x y:Option (Nat × Nat × Nat)} (hk:sF ν p x k=some y):ν k=some y ∨ (p=k/\y=x):=by
 rw [d5] at hk
 split at hk
 ·rename_i e; cases hk; exact .inr ⟨e.symm,rfl⟩
 ·exact .inl hk
theorem vl.put {p b c e:Nat} {o:O} {ob:ap} {wn:List Nat} {pl plA:Option Nat} (hpl:pl=some p) (hplA:plA=some b) (hh:h'=h.set p o) (hl:lh'=lh.set b ob):vl ν (sF ν p (some (b,c,e))) wn pl plA h h' lh lh':=by
 subst hpl hplA hh hl
 refine ⟨by simp,fun j hj _=>by rw [List.getElem?_set,if_neg (fun e=>hj (by rw [e]))],fun k x hk=>?_,by simp,fun k hk=>?_,rfl⟩
 ·rcases xQ hk with h1 | ⟨rfl,rfl⟩
  ·exact .inl h1
  ·exact .inr ⟨rfl,fun y hy=>by cases hy; exact .inl rfl⟩
 ·rcases pK hk with h1 | rfl
  ·exact .inl h1
  ·exact .inr rfl
theorem vl.hide {k:Nat} {wn:List Nat} {pl plA:Option Nat} (hm:vl ν ν' wn pl plA (h.set k .hid) h' lh lh'):vl ν ν' wn pl plA h h' lh lh' :=
 ⟨hm.len,hm.chg,hm.nw,by simpa using hm.hlen,fun j hj=>by
   rcases hm.liv j hj with h1 | h1
   ·exact .inl (wa h1)
   ·exact .inr h1,hm.zz⟩
theorem rf {n b:Nat} (hb:b ≠ 0) (h:n * b<=140737488355328):n<=9223372036854775807:=by
 have:n * 1<=n * b:=Nat.mul_le_mul_left n (Nat.one_le_iff_ne_zero.2 hb)
 omega
theorem qk (hh:HR w0 ν nV nS h lh) {pl plA:Option Nat} (hp:plR nV nS pl plA) {ty:TypeId} {esz n m c':Nat} {f g:Nat->List V} {old new zero:List ak} {K:V->List O->T α} {KA:ak->List ap->Prop}
 (hz:zero.length=esz) (ho:old.length=n * esz) (hn:new.length=m * esz) (hc:n+m<=c') (hmx:n+m<=9223372036854775807)
 (h1:∀ i,i < n->kS esz (f i)=true/\bf w0 ν.z ν (f i) ((old.drop (i * esz)).take esz)) (h2:∀ i,i < m->kS esz (g i)=true/\bf w0 ν.z ν (g i) ((new.drop (i * esz)).take esz))
 (hs:bn LP (eY pl h (.gl esz (n+m) (bA n f g) ty) fun p h=>K (.gs p (n+m)) h) Q)
 (hK:∀ v h' ν' a lh',(plA ≠ none->∀ wn,vl ν ν' wn pl plA h h' lh lh')->ν.sub ν'->HR w0 ν' nV nS h' lh'->vr w0 ν'.z ν' v a->bn LP (K v h') Q->KA a lh') :
 place plA lh (.cells (old++new++(List.replicate (c' - (n+m)) zero).flatten) ty) fun b lh'=>KA (.slice (some (.l b 0)) (n+m) c') lh':=by
 refine Az (o:=.gl esz (n+m) (bA n f g) ty) (c:=c') (e:=esz) hh hp (by simp) (fun p b lh' hb hp'=>.inr ⟨b,c',_,d4 _ _ _,hb,?_,⟨hc,hmx⟩,fun i hi=>?_⟩) hs (fun p b h' lh' hch hp' hr hs'=>hK _ _ _ _ _ (fun hn wn=>?_) (gX hp') hr ?_ hs')
 ·rw [List.length_append,List.length_append,ho,hn,GR,hz,← Nat.add_mul,← Nat.add_mul]; congr 1; omega
 ·obtain ⟨g1,g2⟩:=FU rfl ho hn h1 h2 i hi
  exact ⟨g1,jh (gX hp') _ _ g2⟩
 ·rcases hch with ⟨_,e1⟩ | ⟨e1,e2,e3,e4,_⟩
  ·exact (hn e1).elim
  ·exact vl.put e1 e2 e3 e4
 ·simp only [vr]; exact .inr ⟨b,c',esz,d4 _ _ _,rfl,hc⟩
theorem wU {p:Nat} (hp:ν p=some none):vr w0 lh ν (.gs p 0) (.slice none 0 0):=by
 unfold vr; exact .inl ⟨hp,rfl,rfl⟩
theorem oK (f g:ah) (i:Nat):bA 0 f g i=g i:=by
 unfold bA
 have:Nat.blt i 0=false:=by
  cases hb:Nat.blt i 0 with
  | false=>rfl
  | true=>have:=Nat.le_of_ble_eq_true hb; omega
 rw [this]; simp
theorem Sn (az:List ak) (off:Nat):wr az off []=az:=rfl
theorem MU {α:Type} {l:List α} {i:Nat} {x:α} (h:l[i]? = some x):l.set i x=l:=by
 obtain ⟨hi,rfl⟩:=List.getElem?_eq_some_iff.1 h
 exact List.set_getElem_self hi
theorem yaZ (hh:HR w0 ν nV nS h lh) {pl plA:Option Nat} (hp:plR nV nS pl plA) {ty:TypeId} {esz bytes:Nat} {zero:List ak} {s x:V} {a a':ak} {K:V->List O->T α} {KA:ak->List ap->Prop}
 (hvs:vr w0 ν.z ν s a) (hvx:vr w0 ν.z ν x a') (hz:zero.length=esz) (hs:bn LP (abu pl h ty esz bytes s x K) Q)
 (hK:∀ v h' ν' a lh',(plA ≠ none->∀ wn,(∀ l,iG h s=some l->∀ k,k ∈ l->k ∈ wn)->vl ν ν' wn pl plA h h' lh lh')->ν.sub ν'->HR w0 ν' nV nS h' lh'->vr w0 ν'.z ν' v a->bn LP (K v h') Q->KA a lh'):ql w0 lh plA ty esz bytes zero KA a a':=by
 unfold abu at hs
 split at hs
 ·exact hs.elim
 ·rename_i m g q hsrc
  simp only [bn] at hs
  obtain ⟨rfl,hs⟩:=hs
  obtain ⟨q,c2,new,rfl,hnew,hnl,hno,hel⟩:=GB hh hvx hsrc
  have hKp:∀ v h' ν' a lh',(plA ≠ none->∀ wn,vl ν ν' wn pl plA h h' lh lh')->ν.sub ν'->HR w0 ν' nV nS h' lh'->vr w0 ν'.z ν' v a->bn LP (K v h') Q->KA a lh' :=
   fun v h' ν' a lh' hc=>hK v h' ν' a lh' fun hpl wn _=>hc hpl wn
  have hKh:∀ k v h' ν' a lh',(plA ≠ none->∀ wn,vl ν ν' wn pl plA (h.set k .hid) h' lh lh')->ν.sub ν'->HR w0 ν' nV nS h' lh'->vr w0 ν'.z ν' v a->bn LP (K v h') Q->KA a lh' :=
   fun k v h' ν' a lh' hc=>hKp v h' ν' a lh' fun hpl wn=>(hc hpl wn).hide
  have hno0:plA ≠ none->pl ≠ none:=fun hn=>by
   rcases hp with ⟨e1,e2⟩ | ⟨p,e1,e2⟩
   ·exact (hn e2).elim
   ·rw [e1]; simp
  have hvirt:∀ {h0 h':List O} {p:Nat} {o:O} {wn:List Nat},plA ≠ none->(pl=none ∨ (pl=some p/\h'=h0.set p o/\p < h0.length))->vl ν (sF ν p none) wn pl plA h0 h' lh lh:=by
   intro h0 h' p o wn hn hx
   rcases hx with e1 | ⟨e1,e2,_⟩
   ·exact (hno0 hn e1).elim
   ·subst e2
    refine ⟨rfl,fun _ _ _=>rfl,fun k x hk=>?_,by simp,fun k hk=>?_,rfl⟩
    ·rcases xQ hk with h1 | ⟨rfl,rfl⟩
     ·exact .inl h1
     ·exact .inr ⟨e1,fun y hy=>by cases hy⟩
    ·rcases pK hk with h1 | rfl
     ·exact .inl h1
     ·exact .inr e1
  have hmove:∀ {k p b c ez c2 e2:Nat} {h':List O} {o:O} {ob:ap} {wn:List Nat},plA ≠ none->ν k=some (some (b,c2,e2))->k ∈ wn->(pl=none ∨ (pl=some p/\h'=(h.set k .hid).set p o/\p < (h.set k .hid).length))->vl ν (sF ν p (some (b,c,ez))) wn pl plA h h' lh (lh.set b ob):=by
   intro k p b c ez c2 e2 h' o ob wn hn hk hw hx
   rcases hx with e1 | ⟨e1,e3,_⟩
   ·exact (hno0 hn e1).elim
   ·subst e3
    refine ⟨by simp,fun j _ hj=>by rw [List.getElem?_set,if_neg (hj k _ hw hk)],fun k' x hk'=>?_,by simp,fun k' hk'=>?_,rfl⟩
    ·rcases xQ hk' with h1 | ⟨rfl,rfl⟩
     ·exact .inl h1
     ·exact .inr ⟨e1,fun y hy=>by cases hy; exact .inr ⟨k,_,hw,hk,rfl⟩⟩
    ·rcases pK hk' with h1 | rfl
     ·exact .inl (wa h1)
     ·exact .inr e1
  split at hs
  ·-- nil
   simp only [bn,Bool.and_eq_true,decide_eq_true_eq,Bool.not_eq_true'] at hs
   obtain ⟨⟨hsz,hb0⟩,hs⟩:=hs
   simp only [vr] at hvs; subst hvs
   have hb:bytes ≠ 0:=fun e=>by subst e; simp at hb0
   refine ⟨new,hnew,fun hle=>?_,fun hlt=>⟨[],by simp [cellsOf],?_,.inr hb,fun c' hc'=>?_⟩⟩
   ·have hm:m=0:=by omega
    subst hm
    obtain ⟨p,h',e1,e2,e3,e4,e6,e5⟩:=nf hh hs
    obtain ⟨r1,r2⟩:=hh.virt e1 e2 e3 e4
    exact hKp _ _ _ _ _ (fun hn wn=>hvirt hn e6) r2 r1 (wU (d4 _ _ _)) e5
   ·exact growslice_fits hlt (by simpa using hsz)
   ·have e0:bA 0 (fun _=>[]) g=g:=funext fun i=>oK _ g i
    have:=qk (n:=0) (f:=fun _=>[]) (old:=[]) hh hp (K:=K) (KA:=KA) (ty:=ty) (c':=c') (g:=g) (m:=m) hz (by simp) hnl hc' (by rw [Nat.zero_add]; exact rf hb (by simpa using hsz)) (fun i hi=>by omega) hel (by rw [e0]; simpa using hs) hKp
    exact this
  ·-- a list
   rename_i k n
   rw [bb] at hs
   split at hs
   ·rename_i e n' f ty' hk
    cases hc:(Nat.beq e esz && Nat.beq ty ty') with
    | false=>rw [hc] at hs; exact hs.elim
    | true =>
      rw [hc] at hs
      simp only [Bool.and_eq_true] at hc
      have:=Nat.eq_of_beq_eq_true hc.1
      subst this
      have:=Nat.eq_of_beq_eq_true hc.2
      subst this
      simp only [cond_true,bn,Bool.and_eq_true,decide_eq_true_eq,Bool.not_eq_true'] at hs
      obtain ⟨⟨⟨hnn,hsz⟩,hb0⟩,hs⟩:=hs
      have hb:bytes ≠ 0:=fun e=>by subst e; simp at hb0
      rw [gr] at hs
      have hlk:=ff hk
      have hname:iG h (.gs k n)=some [k]:=by simp only [iG]; unfold aV at hlk; rw [hlk]; rfl
      simp only [vr] at hvs
      rcases hh.blk k _ hk with ⟨h1,h2⟩ | ⟨b,c,az,h1,h2,h3,hn,h5⟩
      ·rcases hvs with ⟨_,h3,h4⟩ | ⟨b,c,e,h3,_⟩
       ·subst h3 h4
        have e0:bA 0 f g=g:=funext fun i=>oK _ g i
        refine ⟨new,hnew,fun hle=>?_,fun hlt=>⟨[],by simp [cellsOf],?_,.inr hb,fun c' hc'=>?_⟩⟩
        ·have hm:m=0:=by omega
         subst hm
         obtain ⟨p,h',e1,e2,e3,e4,e6,e5⟩:=nf (hh.hide1 k) hs
         obtain ⟨r1,r2⟩:=(hh.hide1 k).virt e1 e2 e3 e4
         exact hKh k _ _ _ _ _ (fun hn wn=>hvirt hn e6) r2 r1 (wU (d4 _ _ _)) e5
        ·exact growslice_fits hlt (by simpa using hsz)
        ·exact qk (n:=0) (f:=f) (old:=[]) (hh.hide1 k) hp (K:=K) (KA:=KA) (c':=c') (g:=g) (m:=m) hz (by simp) hnl hc' (by rw [Nat.zero_add]; exact rf hb (by simpa using hsz)) (fun i hi=>by omega) hel (by simpa using hs) (hKh k)
       ·rw [h1] at h3; cases h3
      ·rcases hvs with ⟨h6,_⟩ | ⟨b',c',e',h6,rfl,hnc0⟩
       ·rw [h1] at h6; cases h6
       ·rw [h1] at h6
        obtain ⟨rfl,rfl,rfl⟩:_=b'/\_=c'/\_=e':=by simpa using h6
        have hnc:n * e<=c * e:=Nat.mul_le_mul_right e (by omega)
        have hol:(az.take (n * e)).length=n * e:=by simp; omega
        have hold:∀ i,i < n->kS e (f i)=true/\bf w0 ν.z ν (f i) (((az.take (n * e)).drop (i * e)).take e):=fun i hi=>by rw [lr hi]; exact h5 i (by omega)
        refine ⟨new,hnew,fun hle=>⟨az,_,h2,hno,?_,?_⟩,fun hlt=>⟨az.take (n * e),?_,?_,.inr hb,fun c' hc'=>?_⟩⟩
        ·rw [Nat.zero_add,hnl,← Nat.add_mul,h3]; exact Nat.mul_le_mul_right e hle
        ·rw [Nat.zero_add]
         obtain ⟨p,h',e1,e2,e3,e4,e6,e5⟩:=nf (hh.hide1 k) hs
         have hfit:n * e+new.length<=az.length:=by rw [hnl,← Nat.add_mul,h3]; exact Nat.mul_le_mul_right e hle
         obtain ⟨r1,r2⟩:=hh.move (az:=wr az (n * e) new) e1 e2 h1 hlk e3 e4 ⟨_,_,h2⟩ (by rw [m7]; exact h3) ⟨hle,rf hb hsz⟩ (FU (P6 hfit) hol hnl hold hel)
         exact hK _ _ _ _ _ (fun hn wn hw=>hmove hn h1 (hw _ hname k List.mem_cons_self) e6) r2 r1 (by simp only [vr]; exact .inr ⟨b,c,e,d4 _ _ _,rfl,hle⟩) e5
        ·simp only [cellsOf,lds,h2]; rw [if_pos (by omega)]; simp
        ·exact growslice_fits hlt hsz
        ·exact qk (hh.hide1 k) hp (K:=K) (KA:=KA) (c':=c') hz hol hnl hc' (rf hb hsz) hold hel hs (hKh k)
   ·exact hs.elim
  ·-- a block of a known size
   rename_i k off n c
   split at hs
   ·rename_i m' f q' hsrc2
    have hq2:∃ r,BG h esz (.ss k off n c)=some (n,f,true)/\m'=n/\q'=r:=by
     refine ⟨q',?_⟩
     have:=hsrc2
     unfold BG at this
     simp only [bb] at this
     split at this
     ·split at this
      ·cases hd:(List.all _ V.one) with
       | false=>rw [hd] at this; cases this
       | true =>
         rw [hd] at this
         simp only [cond_true] at this
         split at this
         ·cases this; exact ⟨hsrc2,rfl,rfl⟩
         ·cases this; exact ⟨hsrc2,rfl,rfl⟩
      ·cases this
     ·cases this
    obtain ⟨_,hsrc2',rfl,_⟩:=hq2
    obtain ⟨qs,cs,old,e1,hold,hol,hoo,helo⟩:=GB hh hvs hsrc2'
    have hvs':=hvs
    simp only [vr] at hvs'
    obtain ⟨b,c',e',hν,rfl⟩:=hvs'
    cases e1
    split at hs
    ·rename_i hn0 hc0
     rw [bb] at hs
     split at hs
     ·rename_i ty' hk
      cases hc:(Nat.beq ty ty' && Nat.beq off 0) with
      | false=>rw [hc] at hs; exact hs.elim
      | true =>
        rw [hc] at hs
        simp only [Bool.and_eq_true] at hc
        have:=Nat.eq_of_beq_eq_true hc.1
        subst this
        have:=Nat.eq_of_beq_eq_true hc.2
        subst this
        simp only [cond_true,bn,Bool.and_eq_true,decide_eq_true_eq,Bool.not_eq_true'] at hs
        obtain ⟨⟨hsz,hb0⟩,hs⟩:=hs
        have hb:bytes ≠ 0:=fun e=>by subst e; simp at hb0
        rw [gr] at hs
        have hlk:=dd hk
        have hname:iG h (.ss k 0 0 0)=some [k]:=by simp only [iG]; unfold aV at hlk; rw [hlk]; rfl
        obtain ⟨b2,c2',e2',az,h1,h2,h3⟩:=hh.blk k _ hk
        rw [hν] at h1
        obtain ⟨rfl,rfl,rfl⟩:_=b2/\_=c2'/\_=e2':=by simpa using h1
        simp only [bf] at h3; subst h3
        have e0:bA 0 f g=g:=funext fun i=>oK _ g i
        refine ⟨new,hnew,fun hle=>⟨[],_,h2,hno,?_,?_⟩,fun hlt=>⟨old,hold,?_,.inr hb,fun c' hc'=>?_⟩⟩
        ·have hm:m=0:=by omega
         subst hm
         simp at hnl; subst hnl; simp
        ·have hm:m=0:=by omega
         subst hm
         simp at hnl; subst hnl
         obtain ⟨p,h',e1,e2,e3,e4,e6,e5⟩:=nf (hh.hide1 k) hs
         -- the block is that of an empty list
         obtain ⟨r1,r2⟩:=hh.renu (az:=[]) e1 e2 hν hlk e3 e4 ⟨_,_,h2⟩ rfl
         exact hK _ _ _ _ _ (fun hn wn hw=>hmove hn hν (hw _ hname k List.mem_cons_self) e6) r2 r1 (by unfold vr; exact .inr ⟨b,0,esz,d4 _ _ _,rfl,Nat.le_refl _⟩) e5
        ·exact growslice_fits hlt (by simpa using hsz)
        ·exact qk (n:=0) (f:=f) (hh.hide1 k) hp (K:=K) (KA:=KA) (c':=c') (g:=g) (m:=m) hz hol hnl hc' (by rw [Nat.zero_add]; exact rf hb (by simpa using hsz)) (fun i hi=>by omega) hel (by rw [e0]; simpa using hs) (hKh k)
     ·exact hs.elim
    ·have hgr:bn LP (.ob (decide (c < m'+m/\(m'+m) * bytes<=140737488355328) && !Nat.beq bytes 0) (eY pl h (.gl esz (m'+m) (bA m' f g) ty) fun p h=>K (.gs p (m'+m)) h)) Q->ql w0 lh plA ty esz bytes zero KA (.slice (some (.l b off)) m' c) (.slice q m c2):=fun hs=>by
      simp only [bn,Bool.and_eq_true,decide_eq_true_eq,Bool.not_eq_true'] at hs
      obtain ⟨⟨⟨hlt,hsz⟩,hb0⟩,hs⟩:=hs
      have hb:bytes ≠ 0:=fun e=>by subst e; simp at hb0
      refine ⟨new,hnew,fun hle=>by omega,fun _=>⟨old,hold,growslice_fits hlt hsz,.inr hb,fun c' hc'=>?_⟩⟩
      exact qk hh hp (K:=K) (KA:=KA) (c':=c') hz hol hnl hc' (rf hb hsz) helo hel hs hKp
     split at hs
     ·simp only [bn] at hs
      cases hm:Nat.beq m 0 with
      | false=>exact hgr (hs.2 hm)
      | true =>
        obtain ⟨hnc,hs2⟩:=hs.1 hm
        have hm0:m=0:=Nat.eq_of_beq_eq_true hm
        have hnc:=Nat.le_of_ble_eq_true hnc
        subst hm0
        rw [Nat.zero_mul] at hnl
        have hnn:new=[]:=List.length_eq_zero_iff.1 hnl
        subst hnn
        have hsr:=hsrc2'
        unfold BG at hsr
        simp only [bb] at hsr
        split at hsr
        ·rename_i csV ty0 hk
         obtain ⟨b2,c2',e2',az,h1,h2,h3⟩:=hh.blk k _ hk
         rw [hν] at h1
         obtain ⟨rfl,rfl,rfl⟩:_=b2/\_=c2'/\_=e2':=by simpa using h1
         have hbd:off+m' * esz<=az.length:=by
          have ho:=hold
          simp only [cellsOf,lds,h2] at ho
          split at ho
          ·assumption
          ·cases ho
         refine ⟨[],hnew,fun _=>⟨az,_,h2,hno,by simpa using hbd,?_⟩,fun hlt=>by omega⟩
         rw [Sn,show lh.set b (.cells az ty0)=lh from MU h2]
         exact hK _ _ ν _ _ (fun hn wn hw=>vl.refl ..) (Nu.sub_refl _) hh hvs hs2
        ·cases hsr
     ·exact hgr hs
   ·exact hs.elim
  ·exact hs.elim
end
section
variable {w0:World} {ν ν':Nu} {nV nS N:Nat} {h h':List O} {lh lh':List ap} {α:Type} {LP:d7} {Q:α->Prop} {e:bp} {sl:List ak} {ctx:Bool} {S:FuncId->bE}
theorem acE (c:Bool):∀ {x y z:V} {a b:ak},mrg c x y=some z->(c=true->vr w0 lh ν x a)->(c=false->vr w0 lh ν y b)->vr w0 lh ν z (if c then a else b):=by
 have key:∀ (x:V),(∀ (y z:V) (a b:ak),mrg c x y=some z->(c=true->vr w0 lh ν x a)->(c=false->vr w0 lh ν y b)->vr w0 lh ν z (if c then a else b)):=by
  intro x
  refine V.rec (motive_1:=fun x=>∀ (y z:V) (a b:ak),mrg c x y=some z->(c=true->vr w0 lh ν x a)->(c=false->vr w0 lh ν y b)->vr w0 lh ν z (if c then a else b))
   (motive_2:=fun xs=>∀ (ys zs:List V) (az bs:List ak),GO c xs ys=some zs->(c=true->bf w0 lh ν xs az)->(c=false->bf w0 lh ν ys bs)->bf w0 lh ν zs (if c then az else bs))
   ?_ ?_ ?_ ?_ ?_ ?_ ?_ ?_ ?_ ?_ ?_ ?_ ?_ ?_ ?_ ?_ ?_ ?_ ?_ ?_ ?_ ?_ x
  case refine_1 =>
   intro k n y z a b hm h1 h2
   cases y <;> simp only [mrg] at hm <;> try cases hm
   split at hm
   ·rename_i he _; subst he; cases hm
    simp only [vr] at *
    cases c
    ·rw [h2 rfl]; rfl
    ·rw [h1 rfl]; rfl
   ·cases hm
  case refine_2 =>
   intro p y z a b hm h1 h2
   simp only [mrg] at hm
   split at hm
   ·rename_i q hq
    cases hm
    cases c
    ·have h2:=h2 rfl
     cases y <;> simp only [lV] at hq <;> cases hq <;> (simp only [vr] at h2 ⊢; subst h2; rfl)
    ·have h1:=h1 rfl
     simp only [vr] at h1 ⊢; subst h1; rfl
   ·cases hm
  case refine_3 =>
   intro p y z a b hm h1 h2
   simp only [mrg] at hm
   split at hm
   ·rename_i q hq
    cases hm
    cases c
    ·have h2:=h2 rfl
     cases y <;> simp only [lV] at hq <;> cases hq <;> (simp only [vr] at h2 ⊢; subst h2; rfl)
    ·have h1:=h1 rfl
     simp only [vr] at h1 ⊢; subst h1; rfl
   ·cases hm
  case refine_4 =>
   intro s y z a b hm h1 h2
   cases y <;> simp only [mrg] at hm <;> try cases hm
   simp only [vr] at *
   cases c
   ·rw [h2 rfl]; rfl
   ·rw [h1 rfl]; rfl
  case refine_5 =>
   intro cs ih y z a b hm h1 h2
   cases y <;> simp only [mrg] at hm <;> try cases hm
   split at hm
   ·rename_i zs hz
    cases hm
    simp only [vr] at *
    cases c
    ·obtain ⟨az,rfl,g⟩:=h2 rfl
     have:=ih _ _ [] az hz (fun h=>by cases h) (fun _=>g)
     exact ⟨az,rfl,by simpa using this⟩
    ·obtain ⟨az,rfl,g⟩:=h1 rfl
     have:=ih _ _ az [] hz (fun _=>g) (fun h=>by cases h)
     exact ⟨az,rfl,by simpa using this⟩
   ·cases hm
  case refine_21 =>
   intro ys zs az bs hm h1 h2
   cases ys <;> simp only [GO] at hm <;> cases hm
   simp only [bf] at *
   cases c
   ·simpa using h2 rfl
   ·simpa using h1 rfl
  case refine_22 =>
   intro x xs ihx ihxs ys zs az bs hm h1 h2
   cases ys with
   | nil=>simp [GO] at hm
   | cons y ys =>
     simp only [GO] at hm
     split at hm
     ·rename_i z hz
      split at hm
      ·rename_i zs' hzs
       cases hm
       cases c
       ·have h2:=h2 rfl
        simp only [bf] at h2 ⊢
        obtain ⟨b,bs,rfl,g1,g2⟩:=h2
        have i1:=ihx y z (.any) b hz (fun h=>by cases h) (fun _=>g1)
        have i2:=ihxs ys zs' [] bs hzs (fun h=>by cases h) (fun _=>g2)
        exact ⟨b,bs,rfl,by simpa using i1,by simpa using i2⟩
       ·have h1:=h1 rfl
        simp only [bf] at h1 ⊢
        obtain ⟨b,bs,rfl,g1,g2⟩:=h1
        have i1:=ihx y z b (.any) hz (fun _=>g1) (fun h=>by cases h)
        have i2:=ihxs ys zs' bs [] hzs (fun _=>g2) (fun h=>by cases h)
        exact ⟨b,bs,rfl,by simpa using i1,by simpa using i2⟩
      ·cases hm
     ·cases hm
  all_goals (intros; rename_i hm _ _; simp [mrg] at hm)
 intro x y z a b h0 h1 h2
 exact key x y z a b h0 h1 h2
theorem Dz:∀ {xs ys:List V} {az bs:List ak} {b:Bool},A8 xs ys=some b->bf w0 lh ν xs az->bf w0 lh ν ys bs->dc az bs=some b
 | [],[],az,bs,b,hm,h1,h2=>by
   simp only [bf] at h1 h2; subst h1 h2
   simp only [A8,dc] at *; exact hm
 | [],y::ys,az,bs,b,hm,h1,h2=>by cases y <;> simp [A8] at hm
 | x::xs,[],az,bs,b,hm,h1,h2=>by cases x <;> simp [A8] at hm
 | x :: xs,y::ys,az,bs,b,hm,h1,h2=>by
   cases x <;> cases y <;> simp only [A8] at hm <;> try cases hm
   split at hm
   ·rename_i he _
    subst he
    split at hm
    ·rename_i r hr
     cases hm
     simp only [bf,vr] at h1 h2
     obtain ⟨_,az,rfl,rfl,h1⟩:=h1
     obtain ⟨_,bs,rfl,rfl,h2⟩:=h2
     simp only [dc,if_true,Dz hr h1 h2,Option.map_some]
    ·cases hm
   ·cases hm
theorem M4 {isMax:Bool} {KA:ak->Prop}:∀ {xs:List V} {x z:V} {az:List ak} {a:ak},mmV isMax x xs=some z->vr w0 lh ν x a->bf w0 lh ν xs az->(∀ r,vr w0 lh ν z r->KA r)->mm2 isMax a az KA
 | [],x,z,az,a,hm,h1,h2,hK=>by
   simp only [bf] at h2; subst h2
   cases x <;> (simp only [mmV] at hm; cases hm; unfold mm2; exact hK a h1)
 | y::xs,x,z,az,a,hm,h1,h2,hK=>by
   cases x <;> try (simp [mmV] at hm; done)
   cases y <;> simp only [mmV] at hm <;> try cases hm
   split at hm
   ·rename_i he _
    subst he
    simp only [bf,vr] at h1 h2
    obtain ⟨_,az,rfl,rfl,h2⟩:=h2
    subst h1
    unfold mm2
    exact ⟨rfl,M4 hm (by simp only [vr]) h2 hK⟩
   ·cases hm
theorem TZ {op:BinOp} {k:IntKind} {x y:Int} {K:V->T α} {KA:ak->Prop} (hc:ctx=true) (hs:bn LP (Oc ctx op k x y K) Q) (hK:∀ v a,vr w0 ν.z ν v a->bn LP (K v) Q->KA a):qv op k x y KA:=by
 cases op <;> simp only [Oc] at hs <;> simp only [qv]
 case quo=>obtain ⟨h1,h2⟩:=eK hc hs; exact ⟨h1,hK _ _ (by simp only [vr]) h2⟩
 case rem=>obtain ⟨h1,h2⟩:=eK hc hs; exact ⟨h1,hK _ _ (by simp only [vr]) h2⟩
 case shl=>obtain ⟨h1,h2⟩:=eK hc hs; exact ⟨h1,hK _ _ (by simp only [vr]) h2⟩
 case shr=>obtain ⟨h1,h2⟩:=eK hc hs; exact ⟨h1,hK _ _ (by simp only [vr]) h2⟩
 all_goals first | exact hs.elim | exact hK _ _ (by simp only [vr]) hs
theorem Ih {op:BinOp} {x y:V} {a b:ak} {K:V->T α} {KA:ak->Prop} (hc:ctx=true) (h1:vr w0 ν.z ν x a) (h2:vr w0 ν.z ν y b) (hs:bn LP (y4 ctx op x y K) Q) (hK:∀ v a,vr w0 ν.z ν v a->bn LP (K v) Q->KA a):MV op a b KA:=by
 unfold y4 at hs
 split at hs
 ·simp only [vr] at h1 h2; subst h1 h2
  split at hs
  ·rename_i he _; subst he
   exact ⟨rfl,TZ hc hs hK⟩
  ·exact hs.elim
 ·simp only [vr] at h1 h2; subst h1 h2
  simp only [MV]
  split at hs
  ·exact hK _ _ (by simp only [vr]) hs
  ·exact hK _ _ (by simp only [vr]) hs
  ·obtain ⟨g1,g2⟩:=eK hc hs; exact ⟨g1,hK _ _ (by simp only [vr]) g2⟩
  ·exact hs.elim
 ·exact hs.elim
theorem l7 {v:V} {a:ak} {b:Bool} (hv:vr w0 lh ν v a) (hb:lV v=some b):a=.bool b:=by
 cases v <;> simp only [lV] at hb <;> cases hb <;> (simp only [vr] at hv; exact hv)
theorem tt {cs ds:List V} {off:Nat} {a:ak} (hv:vr w0 ν.z ν (.pd cs) a) (hd:pR off cs=some ds):∃ p,a=.ptr (some p)/\vr w0 ν.z ν (.pd ds) (.ptr (some (p.add off))):=by
 simp only [vr] at hv
 obtain ⟨p,az,rfl,h1,h2,h3⟩:=hv
 obtain ⟨g1,rfl⟩:=tj hd
 refine ⟨p,rfl,?_⟩
 simp only [vr]
 have:=Ef (i:=off) (m:=cs.length - off) (lh:=ν.z) h2 (by omega) (kq _)
 refine ⟨_,_,rfl,by cases p <;> exact h1,by rw [List.length_drop]; exact this,?_,List.all_eq_true.2 fun x hx=>List.all_eq_true.1 h3.2 x (List.mem_of_mem_drop hx)⟩
 have hl:=pF h2
 rw [List.take_of_length_le (by simp; omega)]
 exact fv off h3.1
theorem hU (y d:Nat) (K:Nat->Prop):bnd none y d K=K d:=rfl
theorem wL {xs:List V} {v:V} (hs:Uq h xs v=some h'):∃ k o,h'=h.set k o/\aV h k:=by
 unfold Uq at hs
 split at hs
 ·rename_i k off
  rw [bb] at hs
  split at hs
  ·rename_i cs ty hk
   split at hs
   ·cases hs; exact ⟨k,_,gr _ _ _,dd hk⟩
   ·cases hs
  ·cases hs
 ·rename_i k i j
  rw [bb] at hs
  split at hs
  ·rename_i e n f ty hk
   cases hb:Nat.ble (j+bD xs) e with
   | true=>rw [hb] at hs; cases hs; exact ⟨k,_,gr _ _ _,ff hk⟩
   | false=>rw [hb] at hs; cases hs
  ·cases hs
 ·cases hs
theorem VQ {xs:List V} {v:V} (hs:Uq h xs v=some h'):h'.length=h.length:=by
 obtain ⟨k,o,rfl,_⟩:=wL hs; simp
theorem Pq {xs:List V} {v:V} {j:Nat} (hs:Uq h xs v=some h') (hj:aV h' j):aV h j:=by
 obtain ⟨k,o,rfl,hk⟩:=wL hs
 rcases pK hj with h1 | rfl
 ·exact h1
 ·exact hk
theorem Ol:∀ (xs ys cs:List ak) (o:Nat),wr cs o (xs++ys)=wr (wr cs o xs) (o+xs.length) ys
 | [],ys,cs,o=>by simp [wr]
 | x::xs,ys,cs,o=>by simp only [List.cons_append,wr,List.length_cons]; rw [Ol xs ys,show o+1+xs.length=o+(xs.length+1) by omega]
theorem HD (n:Nat) (z:List ak):(List.replicate (n+1) z).flatten=(List.replicate n z).flatten++z:=by
 rw [List.replicate_succ',List.flatten_append]; simp
theorem AO {α:Type}:∀ (l z:List α),l.length=z.length->oP l 0 z=some z
 | [],[],_=>rfl
 | [],_::_,h=>by cases h
 | _::_,[],h=>by cases h
 | x::l,y::z,h=>by simp only [oP]; rw [AO l z (by simpa using h)]
theorem aaa (hh:HR w0 ν nV nS h lh) {k e n' off:Nat} {f:Nat->List V} {ty:TypeId} {z:List V} {za:List ak} (hk:h[k]? = some (.gl e n' f ty)) {b c:Nat} (hν:ν k=some (some (b,c,e))) (hz:bf w0 ν.z ν z za) (ho:kS e z=true) :
 ∀ n,off+n<=n'->∃ cs,lh[b]? = some (.cells cs ty)/\off * e+n * e<=cs.length/\HR w0 ν nV nS (h.set k (.gl e n' (fun i=>cond (Nat.ble off i && Nat.blt i (off+n)) z (f i)) ty)) (lh.set b (.cells (wr cs (off * e) (List.replicate n za).flatten) ty)):=by
 have hb:=hh.blk k _ hk
 have hoz:=ho
 simp only [kS,Bool.and_eq_true] at hoz
 have hzl:z.length=e:=by have:=Nat.eq_of_beq_eq_true hoz.1; rwa [yac] at this
 have hza:za.length=e:=by rw [bw hz,hzl]
 rcases hb with ⟨h1,_⟩ | ⟨b',c',az,h1,h2,h3,h4,h5⟩
 ·rw [hν] at h1; cases h1
 rw [hν] at h1
 obtain ⟨rfl,rfl⟩:b=b'/\c=c':=by simpa using h1
 intro n
 induction n with
 | zero =>
   intro hn
   refine ⟨az,h2,by rw [h3,Nat.zero_mul,Nat.add_zero]; exact Nat.mul_le_mul_right e (by omega),?_⟩
   have e1:(fun i=>cond (Nat.ble off i && Nat.blt i (off+0)) z (f i))=f:=by
    funext i
    have:(Nat.ble off i && Nat.blt i (off+0))=false:=by
     cases h6:Nat.ble off i with
     | false=>rfl
     | true =>
       have h7:=Nat.le_of_ble_eq_true h6
       cases hb:Nat.blt i (off+0) with
       | false=>rfl
       | true=>have:=Nat.le_of_ble_eq_true hb; omega
    rw [this]; rfl
   rw [e1]
   have e2:h.set k (.gl e n' f ty)=h:=by
    apply List.ext_getElem?; intro j; rw [List.getElem?_set]; split
    ·rename_i e; subst e; obtain ⟨q1,q2⟩:=List.getElem?_eq_some_iff.1 hk; simp [q1,q2]
    ·rfl
   have e3:lh.set b (.cells (wr az (off * e) (List.replicate 0 za).flatten) ty)=lh:=by
    apply List.ext_getElem?; intro j; rw [List.getElem?_set]; split
    ·rename_i e; subst e; obtain ⟨q1,q2⟩:=List.getElem?_eq_some_iff.1 h2; simp [q1,q2,wr]
    ·rfl
   rw [e2,e3]; exact hh
 | succ n ih =>
   intro hn
   obtain ⟨cs,g1,g2,g3⟩:=ih (by omega)
   have hkl:k < h.length:=(List.getElem?_eq_some_iff.1 hk).1
   have hbl:b < lh.length:=(List.getElem?_eq_some_iff.1 h2).1
   have hst:Uq (h.set k (.gl e n' (fun i=>cond (Nat.ble off i && Nat.blt i (off+n)) z (f i)) ty)) z (.pe k (off+n) 0)=some (h.set k (.gl e n' (fun i=>cond (Nat.ble off i && Nat.blt i (off+(n+1))) z (f i)) ty)):=by
    have hfl:(cond (Nat.ble off (off+n) && Nat.blt (off+n) (off+n)) z (f (off+n))).length=z.length:=by
     have hf:=(h5 (off+n) (by omega)).1
     simp only [kS,Bool.and_eq_true] at hf
     have:=Nat.eq_of_beq_eq_true hf.1
     rw [yac] at this
     cases (Nat.ble off (off+n) && Nat.blt (off+n) (off+n)) with
     | true=>rfl
     | false=>show (f (off+n)).length=_; rw [this,hzl]
    simp only [Uq]
    rw [bb,List.getElem?_set,if_pos rfl,if_pos hkl]
    dsimp only
    have hw:=J3 (hfl.trans hzl) 0 z
    rw [AO _ _ hfl] at hw
    unfold wrE at hw
    cases hble:Nat.ble (0+bD z) e with
    | false=>rw [hble] at hw; cases hw
    | true =>
    rw [hble] at hw
    simp only [cond_true,Option.some.injEq] at hw ⊢
    rw [gr,List.set_set]
    congr 3
    funext i
    unfold Tr
    rw [hw]
    cases hi:Nat.beq i (off+n) with
    | true =>
      have:=Nat.eq_of_beq_eq_true hi
      subst this
      have h1:Nat.ble off (off+n)=true:=Nat.ble_eq_true_of_le (by omega)
      have h2:Nat.blt (off+n) (off+(n+1))=true:=Nat.ble_eq_true_of_le (by omega)
      rw [h1,h2]; rfl
    | false =>
      have hne:i ≠ off+n:=fun e=>by subst e; rw [Nat.beq_refl] at hi; cases hi
      have : Nat.blt i (off+(n+1))=Nat.blt i (off+n):=by
       cases hb:Nat.blt i (off+n) with
       | true=>have:=Nat.le_of_ble_eq_true hb; exact Nat.ble_eq_true_of_le (by omega)
       | false =>
         cases hb2:Nat.blt i (off+(n+1)) with
         | false=>rfl
         | true =>
           have h7:=Nat.le_of_ble_eq_true hb2
           have:Nat.blt i (off+n)=true:=Nat.ble_eq_true_of_le (by omega)
           rw [this] at hb; cases hb
      rw [this]; rfl
   rw [h2] at g1; cases g1
   obtain ⟨b2,o2,cs2,ty2,k2,c2,e2',e1,e2,e3,e4,e5,e6⟩:=LE g3 (v:=.pe k (off+n) 0) (a:=.ptr (some (.l b ((off+n) * e+0)))) (by simp only [vr]; exact ⟨b,c,e,hν,rfl⟩) hz hoz.2 hst (fun k1 i1 j1 he e3 n3 f3 ty3 h6=>by
    cases he
    rw [List.getElem?_set,if_pos rfl,if_pos hkl] at h6; cases h6; omega)
   obtain ⟨rfl,rfl⟩:b=b2/\(off+n) * e+0=o2:=by simpa using e1
   rw [List.getElem?_set,if_pos rfl,if_pos hbl] at e2
   cases e2
   refine ⟨az,h2,by rw [m7] at e3; rw [Nat.succ_mul]; rw [Nat.add_mul] at e3; omega,?_⟩
   rw [HD,Ol]
   have hfl:(List.replicate n za).flatten.length=n * e:=by simp [hza]
   rw [hfl]
   rw [List.set_set] at e4
   rw [Nat.add_zero,Nat.add_mul] at e4
   exact e4
theorem xT {cf:CF α} {md:Bool} {pl plA:Option Nat} {op:jy} {K:V->List O->T α} {KA:ak->List ap->Prop} {wn:List Nat} (hsl:fp w0 ν N e sl) (hh:HR w0 ν nV nS h lh) (hc:ctx=true) (hcf:qI w0 S LP md cf)
 (hp:plR nV nS pl plA) (hop:md=true->∃ l,opW h e pl op=some l/\∀ k,k ∈ l->k ∈ wn) (hs:bn LP (yw cf ctx pl op e h K) Q)
 (hK:∀ v h' ν' a lh',(md=true->vl ν ν' wn pl plA h h' lh lh')->(jZ op=true->ν'=ν/\h'=h/\lh'=lh)->ν.sub ν'->HR w0 ν' nV nS h' lh'->vr w0 ν'.z ν' v a->bn LP (K v h') Q->KA a lh'):cI w0 S sl lh plA KA op:=by
 have hK0:∀ v a,vr w0 ν.z ν v a->bn LP (K v h) Q->KA a lh:=fun v a hv hs=>hK v h ν a lh (fun _=>vl.refl _ _ _ _ _ _) (fun _=>⟨rfl,rfl,rfl⟩) (Nu.sub_refl ν) hh hv hs
 have hplace:∀ {o:O} {az:List ak} {ty:TypeId} {KP:Nat->List O->T α} {F:Nat->ak} {c ez:Nat},(md=true->∃ p,pl=some p)->jZ op=false->o ≠ .dead->(∀ p b lh',lh'[b]? = some (.cells az ty)->ν p=none->yO w0 (sF ν p (some (b,c,ez))) nV nS lh' p o) ->
  bn LP (eY pl h o KP) Q->(∀ p b h' lh',ν p=none->HR w0 (sF ν p (some (b,c,ez))) nV nS h' lh'->bn LP (KP p h') Q->∃ v,vr w0 ν.z (sF ν p (some (b,c,ez))) v (F b)/\bn LP (K v h') Q)->place plA lh (.cells az ty) fun b lh'=>KA (F b) lh':=by
  intro o az ty KP F c ez hpl hst hnd hb hs hk
  refine Az hh hp hnd hb hs fun p b h' lh' hch hp' hr hs'=>?_
  obtain ⟨v,hv,hsv⟩:=hk p b h' lh' hp' hr hs'
  refine hK v h' _ _ lh' (fun hm=>?_) (fun e=>by rw [hst] at e; cases e) (gX hp') hr hv hsv
  obtain ⟨p',hp''⟩:=hpl hm
  rcases hch with ⟨g,_⟩ | ⟨e1,e2,e3,e4,_⟩
  ·rw [hp''] at g; cases g
  ·exact vl.put e1 e2 e3 e4
 have hplN:∀ {z:List Nat},opW h e pl op=some z->(match pl with | some p=>some [p] | none=>none:Option (List Nat))=some z->∃ p,pl=some p:=by
  intro z _ hz
  cases pl with
  | none=>cases hz
  | some p=>exact ⟨p,rfl⟩
 cases op <;> simp only [yw] at hs <;> simp only [cI]
 case mov x =>
  obtain ⟨u,h1,h2⟩:=bm hsl hc hs
  exact hK0 _ _ h1 h2
 case pick c a b =>
  obtain ⟨u,h1,h2⟩:=bm hsl hc hs
  split at h2
  ·simp only [vr] at h1; rw [h1]
   obtain ⟨v,g1,g2⟩:=bm hsl hc h2
   exact ⟨fun _=>hK0 _ _ g1 g2,fun e=>by cases e⟩
  ·simp only [vr] at h1; rw [h1]
   obtain ⟨v,g1,g2⟩:=bm hsl hc h2
   exact ⟨(fun e=>by cases e),fun _=>hK0 _ _ g1 g2⟩
  ·rename_i c
   simp only [vr] at h1; rw [h1]
   subst hc
   have ha:∀ {x:V} {KK:V->T α} {a:eS} {cc:Bool},bn LP (gD (true && cc) (cW e a) KK) Q->∃ u,(cc=true->vr w0 ν.z ν u (arg sl a))/\bn LP (KK u) Q:=by
    intro x KK a cc hs
    have hv:=hsl.arg a
    unfold gD at hs
    split at hs
    ·rename_i b u hb
     rw [hb] at hv
     simp only [bn] at hs
     simp only [vr] at hv
     exact ⟨u,fun e=>hv.1 (by subst e; simpa using hs.1),hs.2⟩
    ·exact ⟨_,fun _=>hv,hs⟩
   obtain ⟨x,g1,h3⟩:=ha (x:=.any) h2
   obtain ⟨y,g2,h4⟩:=ha (x:=.any) h3
   split at h4
   ·rename_i z hz
    have hm:=acE (a:=arg sl a) (b:=arg sl b) c hz g1 (fun e=>g2 (by simp [e]))
    refine ⟨fun e=>?_,fun e=>?_⟩
    ·subst e; exact hK0 _ _ (by simpa using hm) h4
    ·subst e; exact hK0 _ _ (by simpa using hm) h4
   ·simp only [bn] at h4
    exact ⟨fun e=>hK0 _ _ (g1 e) (h4.1 e),fun e=>hK0 _ _ (g2 (by simp [e])) (h4.2 e)⟩
  ·simp only [bn] at h2
   exact absurd (h2.1 hc) (by decide)
  ·exact h2.elim
 case new ty z =>
  refine hplace (o:=.cells (z.map Eh) ty) (c:=0) (ez:=0) (F:=fun b=>.ptr (some (.l b 0))) (fun hm=>?_) rfl (by simp) (fun p b lh' hb hp'=>⟨b,0,0,z,d4 _ _ _,hb,na z⟩) hs (fun p b h' lh' hp' hr hs'=>⟨_,?_,hs'⟩)
  ·obtain ⟨l,g,_⟩:=hop hm; exact hplN g g
  ·simp only [vr]; exact ⟨b,0,0,d4 _ _ _,rfl⟩
 case box ty x =>
  obtain ⟨u,h1,h2⟩:=bm hsl hc hs
  cases hf:u.flat with
  | false=>rw [hf] at h2; exact h2.elim
  | true =>
    rw [hf] at h2
    simp only [cond_true] at h2
    obtain ⟨g1,g2⟩:=tM h1 hf
    refine ⟨g1,hplace (o:=.cells u.cells ty) (c:=0) (ez:=0) (F:=fun b=>.ptr (some (.l b 0))) (fun hm=>?_) rfl (by simp) (fun p b lh' hb hp'=>⟨b,0,0,_,d4 _ _ _,hb,jh (gX hp') _ _ g2⟩) h2 (fun p b h' lh' hp' hr hs'=>⟨_,?_,hs'⟩)⟩
    ·obtain ⟨l,g,_⟩:=hop hm; exact hplN g g
    ·simp only [vr]; exact ⟨b,0,0,d4 _ _ _,rfl⟩
 case agg z ps =>
  exact rj hsl hc (na z) hs fun cs az g1 g2=>hK0 _ _ (by simp only [vr]; exact ⟨az,rfl,g1⟩) g2
 case bsl ty n z ps =>
  refine rj hsl hc (na z) hs fun cs az g1 g2=>?_
  refine hplace (o:=.cells cs ty) (c:=0) (ez:=0) (F:=fun b=>.slice (some (.l b 0)) n n) (fun hm=>?_) rfl (by simp) (fun p b lh' hb hp'=>⟨b,0,0,az,d4 _ _ _,hb,jh (gX hp') _ _ g1⟩) g2 (fun p b h' lh' hp' hr hs'=>⟨_,?_,hs'⟩)
  ·obtain ⟨l,g,_⟩:=hop hm; exact hplN g g
  ·simp only [vr]; exact ⟨b,0,0,d4 _ _ _,rfl⟩
 case ld a =>
  obtain ⟨u,h1,h2⟩:=bm hsl hc hs
  obtain ⟨hpe,h3⟩:=sZ hc h2
  split at h3
  ·rename_i v hv
   obtain ⟨p,x,g1,g2,g3⟩:=BW hh h1 hv hpe
   rw [g1]
   exact ⟨x,g2,hK0 _ _ g3 h3⟩
  ·exact h3.elim
 case lds n a =>
  obtain ⟨u,h1,h2⟩:=bm hsl hc hs
  obtain ⟨hpe,h3⟩:=sZ hc h2
  split at h3
  ·rename_i v hv
   obtain ⟨p,x,g1,g2,g3⟩:=F7 hh h1 hv hpe
   rw [g1]
   exact ⟨x,g2,hK0 _ _ (by simp only [vr]; exact ⟨x,rfl,g3⟩) h3⟩
  ·exact h3.elim
 case st n a x =>
  obtain ⟨u,h1,h2,hnm⟩:=Ab hc (hsl.arg a) hs
  obtain ⟨v,h3,h4⟩:=bm hsl hc h2
  obtain ⟨hpe,h5⟩:=sZ hc h4
  cases hf:(v.flat && Nat.beq (bD v.cells) n) with
  | false=>rw [hf] at h5; exact h5.elim
  | true =>
    rw [hf] at h5
    simp only [cond_true] at h5
    simp only [Bool.and_eq_true] at hf
    obtain ⟨g1,g2⟩:=tM h3 hf.1
    have g3:=Nat.eq_of_beq_eq_true hf.2
    rw [yac] at g3
    split at h5
    ·rename_i h' hst
     obtain ⟨b,off,cs,ty,k,c,ez,e1,e2,e3,e4,e5,e6⟩:=LE hh h1 g2 (CG hf.1) hst hpe
     rw [e1]
     have hl:=bw g2
     refine ⟨cs,ty,e2,g1,by omega,by omega,hK _ _ ν _ _ (fun hm=>?_) (fun e=>by cases e) (Nu.sub_refl ν) e4 (by simp only [vr,bf]; exact ⟨[],rfl,rfl⟩) h5⟩
     obtain ⟨l,q1,q2⟩:=hop hm
     simp only [opW] at q1
     have:=hnm _ _ q1
     subst this
     rw [e5] at q1; cases q1
     refine ⟨by simp,fun j _ hj=>by rw [List.getElem?_set,if_neg (hj k _ (q2 k List.mem_cons_self) e6)],fun _ _ h=>.inl h,?_,?_,rfl⟩
     ·exact VQ hst
     ·exact fun j hj=>.inl (Pq hst hj)
    ·exact h5.elim
 case nz x =>
  obtain ⟨u,h1,h2⟩:=bm hsl hc hs
  split at h2
  ·simp only [vr] at h1; obtain ⟨b,c,ez,g1,g2⟩:=h1; rw [g2]; exact hK0 _ _ (by simp only [vr]; exact ⟨b,c,ez,g1,rfl⟩) h2
  ·simp only [vr] at h1; obtain ⟨b,c,ez,g1,g2⟩:=h1; rw [g2]; exact hK0 _ _ (by simp only [vr]; exact ⟨b,c,ez,g1,rfl⟩) h2
  ·simp only [vr] at h1; obtain ⟨p,az,g1,g2,g3,g4⟩:=h1; rw [g1]; exact hK0 _ _ (by simp only [vr]; exact ⟨p,az,rfl,g2,g3,g4⟩) h2
  ·simp only [vr] at h1; obtain ⟨us,vs,g1,g2,g3⟩:=h1; rw [g1]; exact hK0 _ _ (by simp only [vr]; exact ⟨us,vs,rfl,g2,g3⟩) h2
  ·exact h2.elim
 case bin op x y =>
  obtain ⟨u,h1,h2⟩:=bm hsl hc hs
  obtain ⟨v,h3,h4⟩:=bm hsl hc h2
  exact Ih hc h1 h3 h4 fun v a hv hs=>hK0 v a hv hs
 case eqa neg n x y =>
  obtain ⟨u,h1,h2⟩:=bm hsl hc hs
  obtain ⟨v,h3,h4⟩:=bm hsl hc h2
  split at h4
  ·rename_i xs ys
   simp only [vr] at h1 h3
   obtain ⟨az,g1,g2⟩:=h1
   obtain ⟨bs,g3,g4⟩:=h3
   rw [g1,g3]
   split at h4
   ·rename_i b hb
    cases hn:Nat.beq (bD xs) n with
    | false=>rw [hn] at h4; exact h4.elim
    | true =>
      rw [hn] at h4
      have:=Nat.eq_of_beq_eq_true hn
      rw [yac] at this
      exact ⟨by rw [bw g2]; exact this,b,Dz hb g2 g4,hK0 _ _ (by simp only [vr]) h4⟩
   ·exact h4.elim
  ·exact h4.elim
 case eqb neg x y =>
  obtain ⟨u,h1,h2⟩:=bm hsl hc hs
  obtain ⟨v,h3,h4⟩:=bm hsl hc h2
  split at h4
  ·rename_i a b ha hb
   rw [l7 h1 ha,l7 h3 hb]
   exact hK0 _ _ (by simp only [vr]) h4
  ·exact h4.elim
 case un op x =>
  obtain ⟨u,h1,h2⟩:=bm hsl hc hs
  split at h2
  ·simp only [vr] at h1; rw [h1]; exact hK0 _ _ (by simp only [vr]) h2
  ·simp only [vr] at h1; rw [h1]; exact hK0 _ _ (by simp only [vr]) h2
  ·simp only [vr] at h1; rw [h1]; exact hK0 _ _ (by simp only [vr]) h2
  ·exact h2.elim
 case conv k x =>
  obtain ⟨u,h1,h2⟩:=bm hsl hc hs
  split at h2
  ·simp only [vr] at h1; rw [h1]; exact hK0 _ _ (by simp only [vr]) h2
  ·exact h2.elim
 case mkf f xs ys =>
  split at hs
  ·obtain ⟨us,g1,g2⟩:=j4 hsl hc hs
   obtain ⟨vs,g3,g4⟩:=j4 hsl hc g2
   exact hK0 _ _ (by simp only [vr]; exact ⟨_,_,rfl,g1,g3⟩) g4
  ·exact hs.elim
 case fa off x =>
  obtain ⟨u,h1,h2⟩:=bm hsl hc hs
  split at h2
  ·simp only [vr] at h1; obtain ⟨b,c,ez,g1,g2⟩:=h1; rw [g2]; exact hK0 _ _ (by simp only [vr]; exact ⟨b,c,ez,g1,rfl⟩) h2
  ·simp only [vr] at h1; obtain ⟨b,c,ez,g1,g2⟩:=h1; rw [g2]; exact hK0 _ _ (by simp only [vr]; exact ⟨b,c,ez,g1,by simp [gA.add,Nat.add_assoc]⟩) h2
  ·split at h2
   ·rename_i ds hd
    obtain ⟨p,g1,g2⟩:=tt h1 hd
    rw [g1]; exact hK0 _ _ g2 h2
   ·exact h2.elim
  ·exact h2.elim
 case fld off n x =>
  obtain ⟨u,h1,h2⟩:=bm hsl hc hs
  split at h2
  ·simp only [vr] at h1; obtain ⟨az,g1,g2⟩:=h1; rw [g1]
   split at h2
   ·rename_i n
    split at h2
    ·rename_i ds hd
     obtain ⟨q1,rfl⟩:=qh hd
     exact hK0 _ _ (by simp only [vr]; exact ⟨_,rfl,gt n (fv off g2)⟩) h2
    ·exact h2.elim
   ·split at h2
    ·rename_i v hv
     rw [bb] at hv
     obtain ⟨a,q1,q2⟩:=lx g2 hv
     exact ⟨a,q1,hK0 _ _ q2 h2⟩
    ·exact h2.elim
  ·exact h2.elim
 case iaA n esz x ix =>
  obtain ⟨u,h1,h2⟩:=bm hsl hc hs
  obtain ⟨v,h3,h4⟩:=bm hsl hc h2
  split at h4
  ·simp only [vr] at h1 h3; obtain ⟨b,c,ez,g1,g2⟩:=h1; rw [g2,h3]
   obtain ⟨⟨q1,q2⟩,q3⟩:=eK hc h4
   exact ⟨q1,q2,hK0 _ _ (by simp only [vr]; exact ⟨b,c,ez,g1,rfl⟩) q3⟩
  ·simp only [vr] at h1 h3; obtain ⟨b,c,ez,g1,g2⟩:=h1; rw [g2,h3]
   obtain ⟨⟨q1,q2⟩,q3⟩:=eK hc h4
   exact ⟨q1,q2,hK0 _ _ (by simp only [vr]; exact ⟨b,c,ez,g1,by simp [gA.add,Nat.add_assoc]⟩) q3⟩
  ·simp only [vr] at h3
   split at h4
   ·rename_i ds hd
    obtain ⟨p,g1,g2⟩:=tt h1 hd
    rw [g1,h3]
    obtain ⟨⟨q1,q2⟩,q3⟩:=eK hc h4
    exact ⟨q1,q2,hK0 _ _ g2 q3⟩
   ·exact h4.elim
  ·exact h4.elim
 case iaS esz x ix =>
  obtain ⟨u,h1,h2⟩:=bm hsl hc hs
  obtain ⟨v,h3,h4⟩:=bm hsl hc h2
  split at h4
  ·rename_i n f _ i
   simp only [vr] at h1 h3
   obtain ⟨p,c,ez,g1,g2,g3,g4,g5⟩:=h1
   rw [g1,h3]
   cases hn:Nat.beq (bD (f i.toNat)) esz with
   | false=>rw [hn] at h4; exact h4.elim
   | true =>
     rw [hn] at h4
     have hl:=Nat.eq_of_beq_eq_true hn
     rw [yac] at hl
     obtain ⟨⟨q1,q2⟩,q3⟩:=eK hc h4
     obtain ⟨q,az,k1,k2,k3⟩:=g5 i.toNat (by omega)
     subst k1
     have hez:ez=esz:=by have:=pF k2; have:=bw k3.1; omega
     subst hez
     refine ⟨q1,q2,q,rfl,hK0 _ _ ?_ q3⟩
     simp only [vr]
     exact ⟨_,az,rfl,Sd k2,by rw [hl]; exact k2,k3⟩
  ·simp only [vr] at h1 h3; obtain ⟨b,c,ez,g1,g2⟩:=h1; rw [g2,h3]
   obtain ⟨⟨q1,q2⟩,q3⟩:=eK hc h4
   exact ⟨q1,q2,_,rfl,hK0 _ _ (by simp only [vr]; exact ⟨b,c,ez,g1,rfl⟩) q3⟩
  ·rename_i k n _ i
   rw [bb] at h4
   split at h4
   ·rename_i ez n' f ty hk
    cases hn:Nat.beq ez esz with
    | false=>rw [hn] at h4; exact h4.elim
    | true =>
      rw [hn] at h4
      have hl:=Nat.eq_of_beq_eq_true hn
      subst hl
      obtain ⟨⟨q1,q2,q3⟩,q4⟩:=eK hc h4
      simp only [vr] at h1 h3
      rw [h3]
      rcases h1 with ⟨g1,g2,g3⟩ | ⟨b,c,e',g1,g2,_⟩
      ·omega
      ·rw [g2]
       refine ⟨q1,q2,_,rfl,hK0 _ _ ?_ q4⟩
       simp only [vr]
       rcases hh.blk k _ hk with ⟨k1,_⟩ | ⟨b2,c2,az,k1,_⟩
       ·rw [g1] at k1; cases k1
       ·rw [g1] at k1
        obtain ⟨rfl,rfl,rfl⟩:b=_/\c=_/\e'=_:=by simpa using k1
        exact ⟨b,c,e',g1,by simp [gA.add]⟩
   ·exact h4.elim
  ·rename_i k off n _ i
   rw [bb] at h4
   split at h4
   ·rename_i ez n' f ty hk
    cases hn:Nat.beq ez esz with
    | false=>rw [hn] at h4; exact h4.elim
    | true =>
      rw [hn] at h4
      have hl:=Nat.eq_of_beq_eq_true hn
      subst hl
      obtain ⟨⟨q1,q2,q3⟩,q4⟩:=eK hc h4
      simp only [vr] at h1 h3
      rw [h3]
      rcases h1 with ⟨g1,g2,g3⟩ | ⟨b,c,e',o,g1,g2,_,g4⟩
      ·omega
      ·rw [g2,g4 (by omega)]
       refine ⟨q1,q2,_,rfl,hK0 _ _ ?_ q4⟩
       simp only [vr]
       rcases hh.blk k _ hk with ⟨k1,_⟩ | ⟨b2,c2,az,k1,_⟩
       ·rw [g1] at k1; cases k1
       ·rw [g1] at k1
        obtain ⟨rfl,rfl,rfl⟩:b=_/\c=_/\e'=_:=by simpa using k1
        exact ⟨b,c,e',g1,by simp [gA.add,Nat.add_mul]⟩
   ·exact h4.elim
  ·obtain ⟨⟨q1,q2⟩,_⟩:=eK hc h4
   omega
  ·exact h4.elim
 case ixA n esz sz x ix =>
  obtain ⟨u,h1,h2⟩:=bm hsl hc hs
  obtain ⟨v,h3,h4⟩:=bm hsl hc h2
  split at h4
  ·simp only [vr] at h1 h3; obtain ⟨az,g1,g2⟩:=h1; rw [g1,h3]
   split at h4
   ·rename_i sz
    split at h4
    ·rename_i ds hd
     obtain ⟨⟨q1,q2⟩,q3⟩:=eK hc h4
     obtain ⟨_,rfl⟩:=qh hd
     exact ⟨q1,q2,hK0 _ _ (by simp only [vr]; exact ⟨_,rfl,gt sz (fv _ g2)⟩) q3⟩
    ·exact h4.elim
   ·split at h4
    ·rename_i w hw
     rw [bb] at hw
     obtain ⟨⟨q1,q2⟩,q3⟩:=eK hc h4
     obtain ⟨a,k1,k2⟩:=lx g2 hw
     exact ⟨q1,q2,a,k1,hK0 _ _ k2 q3⟩
    ·exact h4.elim
  ·exact h4.elim
 case ixS x ix =>
  obtain ⟨u,h1,h2⟩:=bm hsl hc hs
  obtain ⟨v,h3,h4⟩:=bm hsl hc h2
  split at h4
  ·simp only [vr] at h1 h3; rw [h1,h3]
   obtain ⟨⟨q1,q2⟩,q3⟩:=eK hc h4
   exact ⟨q1,q2,hK0 _ _ (by simp only [vr]) q3⟩
  ·exact h4.elim
 case len x =>
  obtain ⟨u,h1,h2⟩:=bm hsl hc hs
  split at h2
  ·simp only [vr] at h1; obtain ⟨p,c,ez,g1,_,g3,_⟩:=h1; rw [g1]; exact hK0 _ _ (by simp only [vr]) (h2 fun _=>g3)
  ·simp only [vr] at h1; obtain ⟨p,c,ez,g1,g2⟩:=h1; rw [g2]; exact hK0 _ _ (by simp only [vr]) h2
  ·simp only [vr] at h1
   rcases h1 with ⟨g1,g2,g3⟩ | ⟨b,c,e',g1,g2,_⟩
   ·rw [g3]; subst g2; exact hK0 _ _ (by simp only [vr]) h2
   ·rw [g2]; exact hK0 _ _ (by simp only [vr]) h2
  ·simp only [vr] at h1; rw [h1]; exact hK0 _ _ (by simp only [vr]; rfl) h2
  ·simp only [vr] at h1
   rcases h1 with ⟨g1,g2,g3,g4⟩ | ⟨b,c,e',o,g1,g2,_⟩
   ·rw [g4]; subst g2; exact hK0 _ _ (by simp only [vr]) h2
   ·rw [g2]; exact hK0 _ _ (by simp only [vr]) h2
  ·exact h2.elim
 case lenT x =>
  obtain ⟨u,h1,h2⟩:=bm hsl hc hs
  split at h2
  ·simp only [vr] at h1; rw [h1]; exact hK0 _ _ (by simp only [vr]) h2
  ·exact h2.elim
 case lenA n=>exact hK0 _ _ (by simp only [vr]) hs
 case mm b x xs =>
  obtain ⟨u,h1,h2⟩:=bm hsl hc hs
  obtain ⟨us,h3,h4⟩:=j4 hsl hc h2
  split at h4
  ·rename_i v hv
   exact M4 hv h1 h3 fun r hr=>hK0 _ _ hr h4
  ·exact h4.elim
 case ext x i =>
  obtain ⟨u,h1,h2⟩:=bm hsl hc hs
  split at h2
  ·simp only [vr] at h1; obtain ⟨az,g1,g2⟩:=h1; rw [g1]
   split at h2
   ·rename_i v hv
    rw [bb] at hv
    obtain ⟨a,q1,q2⟩:=lx g2 hv
    exact ⟨a,q1,hK0 _ _ q2 h2⟩
   ·exact h2.elim
  ·exact h2.elim
 case slS esz x lo hi mx =>
  obtain ⟨u,h1,h2⟩:=bm hsl hc hs
  obtain ⟨lo',l1,h3⟩:=jW hsl hc h2
  obtain ⟨hi',l2,h4⟩:=jW hsl hc h3
  obtain ⟨mx',l3,h5⟩:=jW hsl hc h4
  split at h5
  ·rename_i n f
   split at h5
   ·simp only [W7] at l3
    rw [l3]
    simp only [vr] at h1
    obtain ⟨p,c,ez,g1,g2,g3,g4,g5⟩:=h1
    rw [g1]
    cases hz:Nat.beq (bD (f 0)) esz with
    | false=>rw [hz] at h5; exact h5.elim
    | true =>
      rw [hz] at h5
      simp only [cond_true] at h5
      have hz:=Nat.eq_of_beq_eq_true hz
      rw [yac] at hz
      dsimp only
      rw [hU]
      refine re (x:=hi') (y:=n) g2 (dN hc l2 h5 fun b hb1 hb2 h6=>?_)
      have hbn:b<=n:=by
       by_cases e1:hi'=none
       ·have:=hb1 e1; omega
       ·exact hb2 e1
      refine dN hc l1 h6 fun a ha1 ha2 h7=>hK0 _ _ ?_ h7
      have hab:a<=b:=by
       by_cases e1:lo'=none
       ·have:=ha1 e1; omega
       ·exact ha2 e1
      simp only [vr]
      refine ⟨_,c - a,esz,rfl,by omega,by omega,?_,fun i hi=>?_⟩
      ·split
       ·exact g4
       ·cases p with
        | none=>trivial
        | some q=>cases q with
          | l k o =>
            obtain ⟨cs,ty,q1,q2⟩:=g4
            refine ⟨cs,ty,q1,?_⟩
            by_cases ha0:a=0
            ·subst ha0; simpa using q2
            ·obtain ⟨q0,as0,j1,j2,j3⟩:=g5 0 (by omega)
             have hez:ez=esz:=by have:=pF j2; have:=bw j3.1; omega
             obtain ⟨q3,as3,m1,m2,_⟩:=g5 (a - 1) (by omega)
             cases m1
             simp only [gA.add,lds,q1] at m2
             split at m2
             ·rename_i hle
              have h3:a * ez=(a - 1) * ez+ez:=by rw [← Nat.succ_mul]; congr 1; omega
              show o+a * esz<=cs.length
              rw [← hez]; omega
             ·cases m2
          | g ad=>trivial
      ·obtain ⟨q,az,k1,k2,k3⟩:=g5 (a+i) (by omega)
       obtain ⟨q0,as0,j1,j2,j3⟩:=g5 0 (by omega)
       have hez:ez=esz:=by have:=pF j2; have:=bw j3.1; omega
       subst hez
       refine ⟨q.add (a * ez),az,?_,?_,k3⟩
       ·rw [if_neg (by omega),k1]; rfl
       ·rw [zI,← Nat.add_mul]; exact k2
   ·exact h5.elim
  ·rename_i k n
   split at h5
   ·simp only [W7] at l1 l3
    rw [l1,l3]
    simp only [vr] at h1
    rcases h1 with ⟨g1,g2,g3⟩ | ⟨b,c,e',g1,g2,g3⟩
    ·rw [g3]
     subst g2
     dsimp only
     rw [hU]
     refine dN hc l2 h5 fun b hb1 hb2 h6=>?_
     have hb:b=0:=by
      by_cases e1:hi'=none
      ·exact hb1 e1
      ·have:=hb2 e1; omega
     subst hb
     rw [hU]
     exact hK0 _ _ (wU g1) h6
    ·rw [g2]
     dsimp only
     rw [hU]
     refine re (x:=hi') (y:=n) g3 (dN hc l2 h5 fun b' hb1 hb2 h6=>?_)
     have hbn:b'<=n:=by
      by_cases e1:hi'=none
      ·have:=hb1 e1; omega
      ·exact hb2 e1
     rw [hU]
     refine hK0 _ _ ?_ h6
     simp only [vr]
     refine .inr ⟨b,c,e',g1,?_,by omega⟩
     simp [gA.add]
   ·rename_i lo2
    rw [bb] at h5
    split at h5
    ·rename_i e2 n2 f2 ty2 hk
     cases hn:Nat.beq e2 esz with
     | false=>rw [hn] at h5; exact h5.elim
     | true =>
       rw [hn] at h5
       simp only [cond_true] at h5
       have:=Nat.eq_of_beq_eq_true hn
       subst this
       simp only [W7] at l3
       rw [l3]
       simp only [vr] at h1
       rcases h1 with ⟨g1,g2,g3⟩ | ⟨b,c,e',g1,g2,g3⟩
       ·rw [g3]
        subst g2
        dsimp only
        rw [hU]
        refine dN hc l2 h5 fun b hb1 hb2 h6=>?_
        have hb:b=0:=by
         by_cases e1:hi'=none
         ·exact hb1 e1
         ·have:=hb2 e1; omega
        subst hb
        refine dN hc l1 h6 fun a ha1 ha2 h7=>hK0 _ _ ?_ h7
        have ha:a=0:=by have:=ha2 (by simp); omega
        subst ha
        simp only [vr]
        exact .inl ⟨g1,trivial,trivial,by simp⟩
       ·rw [g2]
        dsimp only
        rw [hU]
        refine re (x:=hi') (y:=n) g3 (dN hc l2 h5 fun b' hb1 hb2 h6=>?_)
        have hbn:b'<=n:=by
         by_cases e1:hi'=none
         ·have:=hb1 e1; omega
         ·exact hb2 e1
        refine dN hc l1 h6 fun a ha1 ha2 h7=>hK0 _ _ ?_ h7
        have hab:a<=b':=ha2 (by simp)
        have he:e'=e2:=by
         rcases hh.blk k _ hk with ⟨k1,_⟩ | ⟨b2,c2,az,k1,_⟩
         ·rw [g1] at k1; cases k1
         ·rw [g1] at k1; simp at k1; exact k1.2.2
        subst he
        simp only [vr]
        by_cases hm:c=a
        ·refine .inr ⟨b,c,e',0,g1,by rw [if_pos hm],⟨by omega,Nat.zero_le _⟩,fun h0=>by omega⟩
        ·refine .inr ⟨b,c,e',a * e',g1,by rw [if_neg hm]; simp [gA.add],⟨by omega,Nat.mul_le_mul_right _ (by omega)⟩,fun _=>rfl⟩
    ·exact h5.elim
   ·exact h5.elim
  ·rename_i k o n c
   simp only [vr] at h1
   obtain ⟨b,c',e',g1,g2⟩:=h1
   rw [g2]
   refine dN hc l3 h5 fun m _ _ h6=>dN hc l2 h6 fun b' _ _ h7=>dN hc l1 h7 fun a _ _ h8=>hK0 _ _ ?_ h8
   simp only [vr]
   refine ⟨b,c',e',g1,?_⟩
   unfold Tc
   by_cases hm:m=a
   ·subst hm; simp
   ·rw [if_neg hm]
    have:Nat.beq m a=false:=by
     cases hb:Nat.beq m a with
     | false=>rfl
     | true=>exact (hm (Nat.eq_of_beq_eq_true hb)).elim
    rw [this]; simp [gA.add]
  ·split at h5
   ·simp only [W7] at l3
    rw [l3]
    simp only [vr] at h1
    rw [h1]
    dsimp only
    rw [hU]
    refine dN hc l2 h5 fun b hb1 hb2 h6=>?_
    have hb:b=0:=by
     by_cases e1:hi'=none
     ·exact hb1 e1
     ·have:=hb2 e1; omega
    subst hb
    refine dN hc l1 h6 fun a ha1 ha2 h7=>?_
    have ha:a=0:=by
     by_cases e1:lo'=none
     ·exact ha1 e1
     ·have:=ha2 e1; omega
    subst ha
    exact hK0 _ _ (by simp only [vr]; rfl) h7
   ·exact h5.elim
  ·exact h5.elim
 case slA n esz x lo hi mx =>
  obtain ⟨u,h1,h2⟩:=bm hsl hc hs
  obtain ⟨lo',l1,h3⟩:=jW hsl hc h2
  obtain ⟨hi',l2,h4⟩:=jW hsl hc h3
  obtain ⟨mx',l3,h5⟩:=jW hsl hc h4
  split at h5
  ·rename_i k o
   simp only [vr] at h1
   obtain ⟨b,c',e',g1,g2⟩:=h1
   rw [g2]
   refine dN hc l3 h5 fun m _ _ h6=>dN hc l2 h6 fun b' _ _ h7=>dN hc l1 h7 fun a _ _ h8=>hK0 _ _ ?_ h8
   simp only [vr]
   refine ⟨b,c',e',g1,?_⟩
   unfold Tc
   by_cases hm:m=a
   ·subst hm; simp
   ·rw [if_neg hm]
    have:Nat.beq m a=false:=by
     cases hb:Nat.beq m a with
     | false=>rfl
     | true=>exact (hm (Nat.eq_of_beq_eq_true hb)).elim
    rw [this]; simp [gA.add]
  ·exact h5.elim
 case slT x lo hi =>
  obtain ⟨u,h1,h2⟩:=bm hsl hc hs
  obtain ⟨lo',l1,h3⟩:=jW hsl hc h2
  obtain ⟨hi',l2,h4⟩:=jW hsl hc h3
  split at h4
  ·simp only [vr] at h1
   rw [h1]
   exact dN hc l2 h4 fun b' _ _ h7=>dN hc l1 h7 fun a _ _ h8=>hK0 _ _ (by simp only [vr]) h8
  ·exact h4.elim
 case app ty esz bytes z s x =>
  obtain ⟨u,h1,h2,hnm⟩:=Ab hc (hsl.arg s) hs
  obtain ⟨v,h3,h4⟩:=bm hsl hc h2
  cases hz:Nat.beq (bD z) esz with
  | false=>rw [hz] at h4; exact h4.elim
  | true =>
    rw [hz] at h4
    have hz:=Nat.eq_of_beq_eq_true hz
    rw [yac] at hz
    refine yaZ hh hp h1 h3 hz h4 fun v h' ν' a lh' hch g1 g2 g3 g4=>hK v h' ν' a lh' (fun hm=>?_) (fun e=>by cases e) g1 g2 g3 g4
    obtain ⟨l,q1,q2⟩:=hop hm
    simp only [opW] at q1
    split at q1
    ·rename_i l0 p hl0
     cases q1
     have:=hnm _ _ hl0
     subst this
     have hpa:plA ≠ none:=by
      rcases hp with ⟨g,_⟩ | ⟨_,_,g⟩
      ·cases g
      ·rw [g]; simp
     exact hch hpa wn fun l hn k hk=>q2 k (by rw [hl0] at hn; cases hn; exact List.mem_cons_of_mem _ hk)
    ·cases q1
 case mks ty n cs =>
  refine hplace (o:=.cells (cs.map Eh) ty) (c:=0) (ez:=0) (F:=fun b=>.slice (some (.l b 0)) n n) (fun hm=>?_) rfl (by simp) (fun p b lh' hb hp'=>⟨b,0,0,cs,d4 _ _ _,hb,na cs⟩) hs (fun p b h' lh' hp' hr hs'=>⟨_,?_,hs'⟩)
  ·obtain ⟨l,g,_⟩:=hop hm; exact hplN g g
  ·simp only [vr]; exact ⟨b,0,0,d4 _ _ _,rfl⟩
 case call f xs =>
  obtain ⟨us,h1,h2⟩:=j4 hsl hc hs
  exact hcf f us h K Q ν nV nS _ lh KA h1 hh h2 fun v h' ν' a lh' hm=>hK v h' ν' a lh' (fun h=>by obtain ⟨e1,e2,e3⟩:=hm h; subst e1 e2 e3; exact vl.refl _ _ _ _ _ _) (fun e=>by cases e)
 case isn neg x =>
  obtain ⟨u,h1,h2⟩:=bm hsl hc hs
  split at h2
  ·simp only [vr] at h1; rw [h1]; exact hK0 _ _ (by simp only [vr]; cases neg <;> rfl) h2
  ·simp only [vr] at h1; obtain ⟨b,c,ez,g1,g2⟩:=h1; rw [g2]; exact hK0 _ _ (by simp only [vr]; cases neg <;> rfl) h2
  ·simp only [vr] at h1
   obtain ⟨p,c,ez,g1,g2,g3,g4,g5⟩:=h1
   rw [g1]
   simp only [bn] at h2
   cases p with
   | none=>exact hK0 _ _ (by simp only [vr]; cases neg <;> rfl) (h2.1 (by
      rename_i n f
      cases n with
      | zero=>rfl
      | succ n=>obtain ⟨q,az,k1,_⟩:=g5 0 (by omega); cases k1))
   | some p=>exact hK0 _ _ (by simp only [vr]; cases neg <;> rfl) h2.2
  ·simp only [vr] at h1
   simp only [bn] at h2
   rcases h1 with ⟨g1,g2,g3⟩ | ⟨b,c,e',g1,g2,_⟩
   ·rw [g3]; exact hK0 _ _ (by simp only [vr]; cases neg <;> rfl) (h2.1 g2)
   ·rw [g2]; exact hK0 _ _ (by simp only [vr]; cases neg <;> rfl) h2.2
  ·exact h2.elim
 case clr esz z x =>
  obtain ⟨u,h1,h2⟩:=bm hsl hc hs
  split at h2
  ·rename_i k off n
   rw [bb] at h2
   split at h2
   ·rename_i e' n' f ty hk
    cases hb:(Nat.beq e' esz && kS e' (z.map Eh)) with
    | false=>rw [hb] at h2; exact h2.elim
    | true =>
      rw [hb] at h2
      simp only [cond_true,bn,decide_eq_true_eq] at h2
      simp only [Bool.and_eq_true] at hb
      have:=Nat.eq_of_beq_eq_true hb.1
      subst this
      obtain ⟨⟨hn0,hle⟩,h3⟩:=h2
      simp only [vr] at h1
      rcases h1 with ⟨_,g2,_⟩ | ⟨b,c,e2,o,g1,g2,g3,g4⟩
      ·omega
      ·rw [g2,g4 hn0]
       have he:e2=e':=by
        rcases hh.blk k _ hk with ⟨k1,_⟩ | ⟨b2,c2,az,k1,_⟩
        ·rw [g1] at k1; cases k1
        ·rw [g1] at k1; simp at k1; exact k1.2.2
       subst he
       obtain ⟨cs,q1,q2,q3⟩:=aaa (z:=z.map Eh) (za:=z) hh hk g1 (na z) hb.2 n hle
       rw [gr] at h3
       refine ⟨cs,ty,q1,by omega,q2,hK _ _ ν _ _ (fun hm=>?_) (fun e=>by cases e) (Nu.sub_refl ν) q3 (by simp only [vr,bf]; exact ⟨[],rfl,rfl⟩) h3⟩
       obtain ⟨l,q4,_⟩:=hop hm
       cases q4
   ·exact h2.elim
  ·exact h2.elim
 case callv x xs =>
  obtain ⟨u,h1,h2⟩:=bm hsl hc hs
  obtain ⟨us,h3,h4⟩:=j4 hsl hc h2
  split at h4
  ·simp only [vr] at h1; obtain ⟨az,bs,g1,g2,g3⟩:=h1; rw [g1]
   rw [j9,j9] at h4
   exact hcf _ _ h K Q ν nV nS _ lh KA (jw (jw g2 h3) g3) hh h4 fun v h' ν' a lh' hm=>hK v h' ν' a lh' (fun h=>by obtain ⟨e1,e2,e3⟩:=hm h; subst e1 e2 e3; exact vl.refl _ _ _ _ _ _) (fun e=>by cases e)
  ·exact h4.elim
end
end Go.Dx
