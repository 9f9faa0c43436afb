/- Part 2 of a proof. No conditions. -/
import Derived.Test.YthpfocnocgnhjaaGreatDoorLt1
import Derived.RangeFuncOwn
import Derived.RangeFuncNested
import Derived.Laws.Append
set_option maxRecDepth 100000
set_option linter.unusedVariables false
set_option linter.unusedSimpArgs false
namespace Go.Sx
inductive m7 where
 |op (o:gS)
 |yld (t:Nat) (dst:Option Nat) (xs:List fi)
 |yldG (d:Nat) (want:Bool) (t:Nat) (dst:Option Nat) (xs:List fi)
inductive gW where
 |skip
 |reg (ops:List m7)
 |draw (ds:List gQ)
 |drawY (ds:List gQ) (xs:List m7)
 |seq (a b:gW)
 |cond (c:fi) (a b:gW)
 |block (id:Nat) (b:gW)
 |loop (b:gW)
 |exit (id:Nat)
 |ret
 |scope (b:gW)
structure gH where
 f:FuncId
 ntmps:Nat
 body:gW
inductive fS where
 |skip
 |reg (ops:List gS)
 |draw (ds:List gQ)
 |allo (t:OT)
 |alloq (t:OT)
 |seq (a b:fS)
 |cond (c:fi) (a b:fS)
 |block (id:Nat) (b:fS)
 |loop (b:fS)
 |exit (id:Nat)
 |ret
 |scope (b:fS)
 |range (g:fi) (ps:List Nat) (asg body:fS) (its:List gH)
def r4 (o:Oper):Option (Nat×List fi) :=
 match o.guard,o.op with
 | none,.call c=>match c.callee with
   |.value (.tmp t)=>some (t,c.args.toList.map a8)
   |_=>none
 |_,_=>none
def qj (ops:Array Oper) (o:Oper):Option (Nat×Bool×Nat×List fi) :=
 match o.guard,o.op with
 | some (j,want),.call c=>match c.callee,(ops[j]?).bind (·.dst) with
   |.value (.tmp t),some d=>some (d,want,t,c.args.toList.map a8)
   |_,_=>none
 |_,_=>none
def jK (P:Program) (eqs:List TypeId) (ops:Array Oper):List Oper->Option (List m7)
 |[]=>some []
 | o :: l=>match jK P eqs ops l with
   |none=>none
   | some xs=>match r4 o with
     |some (t,az)=>some (.yld t o.dst az::xs)
     | none=>match qj ops o with
       |some (d,want,t,az)=>some (.yldG d want t o.dst az::xs)
       | none=>match kd P eqs ops o with
         |some x=>some (.op x::xs)
         |none=>none
def xq (ops:Array Oper):Nat->Nat->Array Bool->Bool
 |0,_,listed=>(Region.ready .any ops listed).isEmpty
 |f+1,k,listed=>Region.ready .any ops listed==[k]&&xq ops f (k+1) (listed.setIfInBounds k true)
def wc (n y:Nat):Array Bool:=((List.range n).map fun i=>Nat.blt i y).toArray
def F4 (ops:Array Oper):Bool:=(List.range ops.size).all fun i=>match ops[i]? with
 |some o=>o.after.toList.all fun e=>!Region.binds .any e||Nat.blt e.on i
 |none=>true
def PG (ops:Array Oper) (y:Nat):Bool:=((List.range y).all fun j=>FV ops ops.size y j)&&(List.range ops.size).all fun k=>Nat.ble k y||FV ops ops.size k y
def sI (P:Program) (eqs:List TypeId) (ops:Array Oper) (y:Nat):Option (List gQ×List m7) :=
 match eM P eqs ops (ops.toList.take y),jK P eqs ops (ops.toList.drop y) with
 | some xs,some its=>if P.follows .mixedOrders&&qz (ops.toList.take y).toArray (gD (ops.toList.take y).toArray xs (cm xs 0) xs 0)&&zw (ops.toList.take y).toArray (gD (ops.toList.take y).toArray xs (cm xs 0) xs 0).length 0 (Array.replicate ops.size false)&&(gD (ops.toList.take y).toArray xs (cm xs 0) xs 0).length==y&&Nat.ble y ops.size &&
    (gD (ops.toList.take y).toArray xs (cm xs 0) xs 0).all (fun d=>isW d.o.op||d.ws.isEmpty)&&F4 ops&&PG ops y&&xq ops (ops.size-y) y (wc ops.size y) then some (gD (ops.toList.take y).toArray xs (cm xs 0) xs 0,its) else none
 |_,_=>none
def ZW (ops:Array Oper):Option Nat:=ops.toList.findIdx? fun o=>(r4 o).isSome||(qj ops o).isSome
def jl (P:Program) (eqs:List TypeId):Code->Option gW
 |.skip=>some .skip
 |.label _=>some .skip
 |.region _ ops false=>(jK P eqs ops ops.toList).map .reg
 | .region _ ops true=>match ZW ops with
   |none=>(qw P eqs ops).map .draw
   |some y=>(sI P eqs ops y).map fun p=>.drawY p.1 p.2
 | .seq a b=>match jl P eqs a,jl P eqs b with
   |some x,some y=>some (.seq x y)
   |_,_=>none
 | .cond c a b=>match jl P eqs a,jl P eqs b with
   |some x,some y=>some (.cond (a8 c) x y)
   |_,_=>none
 |.block id b=>(jl P eqs b).map (.block id)
 |.loop b=>(jl P eqs b).map .loop
 |.exit id=>some (.exit id)
 |.ret=>some .ret
 |.scope b=>(jl P eqs b).map .scope
 |_=>none
def qG (P:Program) (eqs:List TypeId) (fn:Func):Option (Nat×gW) :=
 match fn.body,fn.results.toList with
 |some c,[]=>(jl P eqs c).map fun x=>(fn.ntmps,x)
 |_,_=>none
def cN (P:Program) (eqs:List TypeId) (its:List gH):Code->Option fS
 |.skip=>some .skip
 |.label _=>some .skip
 |.region _ ops false=>(eM P eqs ops ops.toList).map .reg
 | .region _ ops true=>match A5 P eqs ops with
   |some t=>some (.allo t)
   | none=>match r9 P eqs ops with
     |some t=>some (.alloq t)
     |none=>(qw P eqs ops).map .draw
 | .seq a b=>match cN P eqs its a,cN P eqs its b with
   |some x,some y=>some (.seq x y)
   |_,_=>none
 | .cond c a b=>match cN P eqs its a,cN P eqs its b with
   |some x,some y=>some (.cond (a8 c) x y)
   |_,_=>none
 |.block id b=>(cN P eqs its b).map (.block id)
 |.loop b=>(cN P eqs its b).map .loop
 |.exit id=>some (.exit id)
 |.ret=>some .ret
 |.scope b=>(cN P eqs its b).map .scope
 | .rangeFunc g ps a b=>match cN P eqs its a,cN P eqs its b with
   |some x,some y=>some (.range (a8 g) ps.toList x y its)
   |_,_=>none
 |_=>none
def tV (next:List ak->List ao->Prop) (Q:Ex->List ak->List ao->Prop):Ex->List ak->List ao->Prop
 |.normal,sl,lh=>next sl lh
 |.exit i,sl,lh=>Q (.exit i) sl lh
 |.ret,sl,lh=>Q .ret sl lh
def vF (id:Nat) (Q:Ex->List ak->List ao->Prop):Ex->List ak->List ao->Prop
 |.normal,sl,lh=>Q .normal sl lh
 |.exit i,sl,lh=>if i=id then Q .normal sl lh else Q (.exit i) sl lh
 |.ret,sl,lh=>Q .ret sl lh
def CC:List gH->FuncId->Option gH
 |[],_=>none
 |x::l,f=>if f=x.f then some x else CC l f
def iZ (l:Nat):ak:=.raw (.func (.yield l) #[] #[])
def kA:List ak->List Nat->List ak->List ak
 |sl,p::ps,x::xs=>kA (sl.set p x) ps xs
 |sl,_,_=>sl
abbrev YH:=List ak->List ao->(Ex->List ao->Prop)->Prop
abbrev IQ:=Ex->List ak->List ao->Option Ex->Prop
def Z7 (K:List ak->List ao->Option Ex->Prop) (sl:List ak) (d:Option Nat):Ex->List ao->Prop
 |.normal,lh=>K (eb sl d (.bool true)) lh none
 |x,lh=>K (eb sl d (.bool false)) lh (some x)
def cg (w0:World) (S:FuncId->bH) (l:Nat) (Y:YH):List m7->List ak->List ao->Option Ex->(List ak->List ao->Option Ex->Prop)->Prop
 |[],sl,lh,g,K=>K sl lh g
 |.op o::rest,sl,lh,g,K=>eE w0 S [o] sl lh fun sl lh=>cg w0 S l Y rest sl lh g K
 |.yld t d xs::rest,sl,lh,g,K=>g=none/\sl.getD t .any=iZ l/\Y (xs.map (arg sl)) lh (Z7 (fun sl lh g=>cg w0 S l Y rest sl lh g K) sl d)
 | .yldG d want t dst xs::rest,sl,lh,g,K=>match sl.getD d .any with
   | .bool b=>(b=want->g=none/\(sl.set d (.bool want)).getD t .any=iZ l/\Y (xs.map (arg (sl.set d (.bool want)))) lh (Z7 (fun sl lh g=>cg w0 S l Y rest sl lh g K) (sl.set d (.bool want)) dst)) /\
      (b=!want->cg w0 S l Y rest (eb (sl.set d (.bool (!want))) dst (.tup [])) lh g K)
   |.tup vs=>cg w0 S l Y rest (eb (sl.set d (.tup vs)) dst (.tup [])) lh g K
   |.int ..=>cg w0 S l Y rest (eb sl dst (.tup [])) lh g K
   |_=>False
def acl (next:List ak->List ao->Option Ex->Prop) (Q:IQ):IQ
 |.normal,sl,lh,g=>next sl lh g
 |.exit i,sl,lh,g=>Q (.exit i) sl lh g
 |.ret,sl,lh,g=>Q .ret sl lh g
def wh (id:Nat) (Q:IQ):IQ
 |.normal,sl,lh,g=>Q .normal sl lh g
 |.exit i,sl,lh,g=>if i=id then Q .normal sl lh g else Q (.exit i) sl lh g
 |.ret,sl,lh,g=>Q .ret sl lh g
def kg (w0:World) (S:FuncId->bH) (l:Nat) (Y:YH):gW->List ak->List ao->Option Ex->IQ->Prop
 |.skip,sl,lh,g,Q=>Q .normal sl lh g
 |.reg ops,sl,lh,g,Q=>cg w0 S l Y ops sl lh g (Q .normal)
 |.draw ds,sl,lh,g,Q=>mr w0 S ds sl lh fun sl lh=>Q .normal sl lh g
 |.drawY ds xs,sl,lh,g,Q=>mr w0 S ds sl lh fun sl lh=>cg w0 S l Y xs sl lh g (Q .normal)
 |.seq a b,sl,lh,g,Q=>kg w0 S l Y a sl lh g (acl (fun sl lh g=>kg w0 S l Y b sl lh g Q) Q)
 | .cond c a b,sl,lh,g,Q=>match arg sl c with
   |.bool t=>(t=true->kg w0 S l Y a sl lh g Q)/\(t=false->kg w0 S l Y b sl lh g Q)
   |_=>False
 |.block id b,sl,lh,g,Q=>kg w0 S l Y b sl lh g (wh id Q)
 | .loop b,sl,lh,g,Q=>∃ (ι:Type) (shs:ι->List ak) (shl:ι->List ao) (shg:ι->Option Ex) (μ:ι->Nat) (i0:ι),sl=shs i0/\lh=shl i0/\g=shg i0 /\
    ∀ i,kg w0 S l Y b (shs i) (shl i) (shg i) (acl (fun sl' lh' g'=>∃ i',sl'=shs i'/\lh'=shl i'/\g'=shg i'/\μ i'<μ i) Q)
 |.exit id,sl,lh,g,Q=>Q (.exit id) sl lh g
 |.ret,sl,lh,g,Q=>Q .ret sl lh g
 |.scope b,sl,lh,g,Q=>kg w0 S l Y b sl lh g Q
def alx (Q:Ex->List ak->List ao->Prop) (sl:List ak):IQ
 |.exit _,_,_,_=>False
 |_,_,lh,none=>Q .normal sl lh
 |_,_,lh,some x=>Q x sl lh
def bY (w0:World) (S:FuncId->bH) (nb:Nat):fS->List ak->List ao->(Ex->List ak->List ao->Prop)->Prop
 |.skip,sl,lh,Q=>Q .normal sl lh
 |.reg ops,sl,lh,Q=>eE w0 S ops sl lh (Q .normal)
 |.draw ds,sl,lh,Q=>mr w0 S ds sl lh (Q .normal)
 |.allo t,sl,lh,Q=>o8 w0 S t sl lh (Q .normal)
 |.alloq t,sl,lh,Q=>o8 w0 (xL S) t sl lh (Q .normal)
 |.seq a b,sl,lh,Q=>bY w0 S nb a sl lh (tV (fun sl lh=>bY w0 S nb b sl lh Q) Q)
 | .cond c a b,sl,lh,Q=>match arg sl c with
   |.bool t=>(t=true->bY w0 S nb a sl lh Q)/\(t=false->bY w0 S nb b sl lh Q)
   |_=>False
 |.block id b,sl,lh,Q=>bY w0 S nb b sl lh (vF id Q)
 | .loop b,sl,lh,Q=>∃ (ι:Type) (shs:ι->List ak) (shl:ι->List ao) (μ:ι->Nat) (i0:ι),Sub nb sl lh (shs i0) (shl i0) /\
    ∀ i,bY w0 S nb b (shs i) (shl i) (tV (fun sl' lh'=>∃ i',Sub nb sl' lh' (shs i') (shl i')/\μ i'<μ i) Q)
 |.exit id,sl,lh,Q=>Q (.exit id) sl lh
 |.ret,sl,lh,Q=>Q .ret sl lh
 |.scope b,sl,lh,Q=>bY w0 S nb b sl lh Q
 | .range g ps asg body its,sl,lh,Q=>match arg sl g with
   | .fn (.func f) [] ys=>match CC its f with
     | some it=>∀ l,kg w0 S l (fun xs lh K=>xs.length=ps.length/\bY w0 S lh.length asg (kA sl ps xs) lh (tV (fun sl lh'=>bY w0 S lh.length body sl lh' fun x _ lh=>K x lh) fun _ _ _=>False)) it.body
        (iZ l::ys++List.replicate (it.ntmps-(ys.length+1)) .any) lh none (alx Q sl)
     |none=>False
   |_=>False
def Uj:Ex->Exit
 |.normal=>.normal
 |.exit i=>.exit i
 |.ret=>.ret
def jj (B:cY):List Deferred->World->Prop
 |[],_=>True
 |d::ds,w=>∃ D,d={ target:=.collected D,args:=#[] }/\w.heap[D]? = some (.deferred (some []))/\(B.wf.heap.size<=D/\B.w0.heap.size<=D)/\(∀ d'∈ds,d'.target≠.collected D)/\jj B ds w
theorem jj.keeps {B:cY} {w w':World} (hk:∀ (D:Nat) (o:Option (List Deferred)),w.heap[D]? = some (Obj.deferred o)->w'.heap[D]? = some (Obj.deferred o)):∀ {ds:List Deferred},jj B ds w->jj B ds w'
 |[],_=>trivial
 |_::_,⟨D,h1,h2,h3,h4,h5⟩=>⟨D,h1,hk _ _ h2,h3,h4,jj.keeps hk h5⟩
theorem jj.old {B:cY} {w:World} {D:Nat}:∀ {ds:List Deferred},jj B ds w->(∀ o:Option (List Deferred),w.heap[D]? ≠ some (Obj.deferred o))->∀ d'∈ds,d'.target≠.collected D
 |[],_,_,d',hd=>by cases hd
 | d::ds,⟨D',h1,h2,_,_,h4⟩,hn,d',hd=>by
   rcases List.mem_cons.1 hd with rfl|hd
   ·rw[h1];intro e;cases e;exact hn _ h2
   ·exact jj.old h4 hn d' hd
theorem nU {B:cY} {w w':World} (hk:KeepsOthers w w') {ds:List Deferred} (h:jj B ds w):jj B ds w':=h.keeps fun D _ hD=>hk.same D _ hD rfl
def SR (B:cY) (m:aF) (sl:List ak) (lh:List ao) (a:Act) (w:World):Prop:=ar m sl a.tmps.toList/\jj B a.defers w/\a7 B m lh w
def cY.at (B:cY) (m:aF) (lh:List ao) (w:World) (ds:List Deferred):cY:=⟨B.w0,w,fun b=>∃ k cs ty,lh[k]? = some (.cells cs ty)/\m k=some b,ds⟩
theorem a7.rebase {B:cY} {m:aF} {lh:List ao} {w:World} (h:a7 B m lh w) (ds:List Deferred):a7 (B.at m lh w ds) m lh w :=
 ⟨rfl,rfl,rfl,h.size,h.old,aaS _,fun _ _ _=>rfl,fun k cs ty hk=>let ⟨b,vs,h1,h2,h3,h4,_⟩:=h.loc k cs ty hk;⟨b,vs,h1,h2,h3,h4,.inr ⟨k,cs,ty,hk,h1⟩⟩,h.inj,h.dom,h.dead,h.rng⟩
theorem a7.withDs {B:cY} {m:aF} {lh:List ao} {w:World} (h:a7 B m lh w) (ds:List Deferred):a7 { B with ds:=ds } m lh w :=
 ⟨h.os,h.tape,h.output,h.size,h.old,h.fsize,h.kept,h.loc,h.inj,h.dom,h.dead,h.rng⟩
theorem a7.noDs {B:cY} {m:aF} {lh:List ao} {w:World} {ds:List Deferred} (h:a7 { B with ds:=ds } m lh w):a7 B m lh w :=
 ⟨h.os,h.tape,h.output,h.size,h.old,h.fsize,h.kept,h.loc,h.inj,h.dom,h.dead,h.rng⟩
theorem a7.unbase {B:cY} {m m':aF} {lh lh':List ao} {w w':World} {ds:List Deferred} (h:a7 B m lh w) (h':a7 (B.at m lh w ds) m' lh' w'):a7 B m' lh' w'/\KeepsOthers w w':=by
 have hown:∀ b,(∃ k cs ty,lh[k]? = some (.cells cs ty)/\m k=some b)->B.wf.heap.size<=b∨B.own b:=fun b ⟨k,cs,ty,h1,h2⟩=>by
  obtain ⟨b',vs,g1,_,_,_,g2⟩:=h.loc k cs ty h1
  rw [h2]at g1;cases g1;exact g2
 refine ⟨⟨h'.os.trans h.os,h'.tape.trans h.tape,h'.output.trans h.output,h'.size,h'.old,ajf h.fsize h'.fsize,fun b hb ho=>?_,fun k cs ty hk=>?_,h'.inj,h'.dom,h'.dead,h'.rng⟩,⟨h'.fsize,fun k o hk ho=>?_⟩⟩
 ·rw[h'.kept b (ahs hb h.fsize) (fun hn=>by rcases hown b hn with h1|h1;exact absurd hb (by omega);exact ho h1)]
  exact h.kept b hb ho
 ·obtain⟨b,vs,h1,h2,h3,h4,h5⟩:=h'.loc k cs ty hk
  refine ⟨b,vs,h1,h2,h3,h4,?_⟩
  rcases h5 with h5|h5
  ·exact .inl (ajf h.fsize h5)
  ·exact hown b h5
 ·refine(h'.kept k (Array.getElem?_eq_some_iff.1 hk).1 (fun ⟨k',cs,ty,h1,h2⟩=>?_)).trans hk
  obtain ⟨b',vs,g1,_,g3,_⟩:=h.loc k' cs ty h1
  rw [h2]at g1;cases g1
  rw [hk]at g3;cases g3;cases ho
def QC (B:cY) (nb:Nat) (lh0:List ao) (m0:aF) (w1:World) (Q:Ex->List ak->List ao->Prop) (e:Exit) (a:Act) (w:World):Prop :=
 ∃ x sl lh m,e=Uj x/\SR B m sl lh a w/\nf nb lh0 m0 lh m/\KeepsOthers w1 w/\Q x sl lh
section
variable {P:Program} {B:cY} {S:FuncId->bH} {eqs:List TypeId} {F:Fence} {n nb:Nat}
theorem QC.of {lh0:List ao} {m0:aF} {lh:List ao} {m:aF} {w0 w1:World} {Q Q':Ex->List ak->List ao->Prop} {e:Exit} {a:Act} {w:World} (he:nf nb lh0 m0 lh m) (hk:KeepsOthers w0 w1) (hq:∀ x sl lh,Q x sl lh->Q' x sl lh)
 (h:QC B nb lh m w1 Q e a w):QC B nb lh0 m0 w0 Q' e a w:=by
 obtain ⟨x,sl,lh',m',h1,h2,h3,h4,h5⟩:=h
 exact ⟨x,sl,lh',m',h1,h2,he.trans h3,hk.trans h4,hq _ _ _ h5⟩
theorem jo {c:Code} {Q:Exit->Act->World->Prop} {a:Act} {w:World} (hQ:∀ l a w,¬ Q (.goto l) a w) (h:c.wpIn F n P Q a w):(Code.scope c).wpIn F n P Q a w:=by
 intro b k cs hro hb hr
 have h0:(lone (b.atR a (.code (.scope c)::k)) cs w).fenced P F:=fenced_calm hb hr rfl
 have hstep:∀ {a:Act} {w:World},step P (lone (b.atR a (.code (.scope c)::k)) cs w)=.next (lone (b.atR a (.code c::.inScope c::k)) cs w):=fun {a w}=>step_lone_go (by simp[stepG,stepG.exec,Frame.atR])
 have hend:∀ {a:Act} {w:World},step P (lone (b.atR a (.inScope c::k)) cs w)=.next (lone (b.atR a k) cs w):=fun {a w}=>step_lone_go (by simp[stepG,stepG.exec,Frame.atR])
 obtain ⟨e,a₁,w₁,hq,harr⟩:=h b (.inScope c::k) cs hro hb hr
 have hx:∀ id,exitTo id (.inScope c::k)=exitTo id k:=fun id=>by simp[exitTo]
 cases e with
 |normal=>exact⟨.normal,a₁,w₁,hq,.head h0 hstep (StepsIn.trans harr (.one (fenced_calm hb hr rfl) hend))⟩
 | exit id =>
   exact ⟨.exit id,a₁,w₁,hq,fun k' hk=>.head h0 hstep (harr.1 k' (by rw[hx];exact hk)),fun hr' hk=>let ⟨k₁,g1,g2⟩:=harr.2 hr' (by rw[hx];exact hk);⟨k₁,g1,.head h0 hstep g2⟩⟩
 |goto l=>exact(hQ l _ _ hq).elim
 |ret=>exact⟨_,a₁,w₁,hq,.of_steps (.one h0 hstep) harr⟩
 |panic ch=>exact⟨_,a₁,w₁,hq,.of_steps (.one h0 hstep) harr⟩
 |outgrown=>exact⟨_,a₁,w₁,hq,.of_steps (.one h0 hstep) harr⟩
theorem m5 {c:Code} {Q:Exit->Act->World->Prop} {a:Act} {w:World} (I:Nat->Act->World->Prop) (h₀:∃ k,I k a w)
 (round:∀ k a w,I k a w->c.wpIn F n P (Exit.then (fun a' w'=>∃ k',k'<k/\I k' a' w') Q) a w):(Code.loop c).wpIn F n P Q a w:=by
 intro b k cs hro hb hr
 have key:∀ j a w,I j a w->∃ e a' w',Q e a' w'/\ArrivesIn (Machine.fenced P F) P (lone (b.atR a (.code c::.inLoop c::k)) cs w) b k cs e a' w':=by
  intro j
  induction j using Nat.strongRecOn with
  | _ j ih =>
    intro a w hI
    obtain ⟨e,a₁,w₁,hq,harr⟩:=round j a w hI b (.inLoop c::k) cs hro hb hr
    cases e with
    | normal =>
      obtain ⟨k',hlt,hI₁⟩:=hq
      obtain ⟨e₂,a₂,w₂,hq₂,harr₂⟩:=ih k' hlt a₁ w₁ hI₁
      exact ⟨e₂,a₂,w₂,hq₂,.of_steps (StepsIn.trans harr (.one (fenced_calm hb hr rfl) stepR_inLoop)) harr₂⟩
    |exit id=>exact⟨_,a₁,w₁,hq,.pass (x:=.inLoop c) rfl (fun _ _=>.inl (by simp)) harr⟩
    |goto l=>exact⟨_,a₁,w₁,hq,.pass (x:=.inLoop c) rfl (fun _ _=>.inl (by simp)) harr⟩
    |ret=>exact⟨_,a₁,w₁,hq,.pass (x:=.inLoop c) rfl (fun _ _=>.inl (by simp)) harr⟩
    |panic ch=>exact⟨_,a₁,w₁,hq,.pass (x:=.inLoop c) rfl (fun _ _=>.inl (by simp)) harr⟩
    |outgrown=>exact⟨_,a₁,w₁,hq,.pass (x:=.inLoop c) rfl (fun _ _=>.inl (by simp)) harr⟩
 obtain ⟨k0,h0⟩:=h₀
 obtain ⟨e,a',w',hq,harr⟩:=key k0 a w h0
 exact ⟨e,a',w',hq,.of_steps (.one (fenced_calm hb hr rfl) stepR_loop) harr⟩
def jmp:Ex->Code
 |.normal=>.skip
 |.exit i=>.exit i
 |.ret=>.ret
def Hr:Ex->Option Ex
 |.normal=>none
 |x=>some x
structure KB (l:Nat) (W W':World):Prop where
 size:W.heap.size<=W'.heap.size
 same:∀ (k:Nat) (o:Obj),k≠l->W.heap[k]? = some o->o.isCells=false->W'.heap[k]? = some o
theorem KB.refl (l:Nat) (W:World):KB l W W:=⟨aaS _,fun _ _ _ h _=>h⟩
theorem KB.keeps {l:Nat} {A W W':World} (h:KB l A W) (k:KeepsOthers W W'):KB l A W':=⟨ajf h.size k.size,fun i o hi ho hc=>k.same i o (h.same i o hi ho hc) hc⟩
theorem KB.put {l:Nat} {A W:World} (h:KB l A W) (o:Obj):KB l A (W.putObj l o):=⟨by simpa using h.size,fun i o' hi ho hc=>(World.putObj_heap_other hi).trans (h.same i o' hi ho hc)⟩
def I0 (l:Nat) (rec:LoopState->Option Code->Loop) (g:Option Ex) (w:World):Prop:=w.heap[l]? = some (.loop (rec (if g.isNone then .ready else .done) (g.map jmp)))
theorem a7.putObj {m:aF} {lh:List ao} {w:World} (h:a7 B m lh w) {l:Nat} {o:Obj} (hl:w.heap[l]? = some o) (ho:o.isCells=false) (hf:B.wf.heap.size<=l) (h0:B.w0.heap.size<=l) (o':Obj):a7 B m lh (w.putObj l o'):=by
 refine ⟨h.os,h.tape,h.output,by simpa using h.size,fun b hb=>(World.putObj_heap_other (by omega)).trans (h.old b hb),by simpa using h.fsize,fun b hb ho=>(World.putObj_heap_other (by omega)).trans (h.kept b hb ho),fun k cs ty hk=>?_,h.inj,h.dom,h.dead,fun k b hk=>by simpa using h.rng k b hk⟩
 obtain ⟨b,vs,h1,h2,h3,h4,h5⟩:=h.loc k cs ty hk
 refine ⟨b,vs,h1,h2,(World.putObj_heap_other (fun e=>?_)).trans h3,h4,h5⟩
 subst e;rw[hl]at h3;cases h3;cases ho
theorem D4 {lh lh':List ao} {m m':aF} {w:World} (h:a7 B m lh w) (he:nf lh.length lh m lh' m'):hG lh m lh' m':=by
 refine ⟨fun k b hk=>he.1 k b ?_ hk,fun k hk=>he.2 k (List.getElem?_eq_some_iff.1 hk).1 hk⟩
 rcases aqb k lh.length with hlt|hge
 ·exact hlt
 ·rw[h.dom k hge]at hk;cases hk
structure IR (B:cY) (l:Nat) (rec:LoopState->Option Code->Loop) (W1:World) (lh0:List ao) (m0:aF) (m:aF) (sl:List ak) (lh:List ao) (g:Option Ex) (a:Act) (w:World):Prop where
 vs:ar m sl a.tmps.toList
 df:a.defers=[]
 hh:a7 B m lh w
 ext:hG lh0 m0 lh m
 rc:I0 l rec g w
 kb:KB l W1 w
def YS (B:cY) (F:Fence) (n:Nat) (P:Program) (l:Nat) (rec:LoopState->Option Code->Loop) (W1:World) (lh0:List ao) (m0:aF) (Y:YH):Prop :=
 ∀ (m:aF) (lh:List ao) (w:World) (args:List ak) (vs:List Value) (K:Ex->List ao->Prop),a7 B m lh w->hG lh0 m0 lh m->I0 l rec none w->KB l W1 w->ar m args vs->Y args lh K ->
  ∃ fn tmps asg body,(Instr.yield l vs.toArray).run P w=.ok (.round l fn tmps asg body) w/\RoundIn F (n-1) P l fn tmps asg body w fun e w'=>∃ x m' lh',e=.returned (.bool (Hr x).isNone)/\a7 B m' lh' w'/\hG lh m lh' m'/\I0 l rec (Hr x) w'/\KB l W1 w'/\K x lh'
section it
variable {l:Nat} {rec:LoopState->Option Code->Loop} {W1:World} {lh0:List ao} {m0:aF} {Y:YH}
def QI (B:cY) (l:Nat) (rec:LoopState->Option Code->Loop) (W1:World) (lh0:List ao) (m0:aF) (Q:IQ) (e:Exit) (a:Act) (w:World):Prop :=
 ∃ x sl lh m g,e=Uj x/\IR B l rec W1 lh0 m0 m sl lh g a w/\Q x sl lh g
theorem IR.step {m m':aF} {sl sl':List ak} {lh lh':List ao} {g:Option Ex} {a a':Act} {w w':World} (h:IR B l rec W1 lh0 m0 m sl lh g a w) (hs:iT (B.at m lh w []) m' sl' lh' a' w') (he:hG lh m lh' m'):IR B l rec W1 lh0 m0 m' sl' lh' g a' w':=by
 obtain ⟨h1,h2⟩:=h.hh.unbase hs.2.2
 exact ⟨hs.1,hs.2.1,h1,h.ext.trans he,h2.same _ _ h.rc rfl,h.kb.keeps h2⟩
theorem v6 (hF:jU F) (hY:YS B F n P l rec W1 lh0 m0 Y) {Q:Exit->Act->World->Prop} {next:Act->World->Prop} {o:Oper} {c:Call} {t:Nat} {sl:List ak} {lh:List ao} {m:aF} {a:Act} {w:World} {K:Ex->List ao->Prop}
 (hs:IR B l rec W1 lh0 m0 m sl lh none a w) (hy0:sl.getD t .any=iZ l) (hv:Y ((c.args.toList.map a8).map (arg sl)) lh K) (ho:o.op=.call c) (hcal:c.callee=.value (.tmp t))
 (ih:∀ x lh' m' a' w',IR B l rec W1 lh0 m0 m' (eb sl o.dst (.bool (Hr x).isNone)) lh' (Hr x) a' w'->K x lh'->next a' w'):o.wpIn F n P a w next Q:=by
 refine ⟨fun f _=>hF.fn f,?_⟩
 have hsem:o.semAt F.round a.eval=execOp a.eval o:=by
  unfold Oper.semAt;split
  ·rename_i ho';rw[ho]at ho';cases ho'
  ·rfl
 have hev:a.eval (.tmp t)=.func (.yield l) #[] #[]:=by
  have:=mz hs.vs t undef
  rw [hy0]at this
  simp only [iZ,vrel]at this
  simpa [Act.eval] using this
 obtain ⟨fn,tmps,asg,body,hrun,hround⟩:=hY m lh w _ _ _ hs.hh hs.ext hs.rc hs.kb (gj hs.vs c.args.toList) hv
 have hexec:(execOp a.eval o).run P w=.ok (.round l fn tmps asg body) w:=by
  simp only [execOp,ho]
  rw [ab (a:={ target:=.fn (.yield l) #[],args:=#[]++c.args.map a.eval }) (w':=w) (by simp only[resolve,hcal,hev];rfl)]
  simp only [invoke]
  have:#[]++c.args.map a.eval++#[]=(c.args.toList.map a.eval).toArray:=by
   apply Array.toList_inj.1;simp
  first
   |(rw[this];exact hrun)
   | (have e2:#[]++c.args.map a.eval=(c.args.toList.map a.eval).toArray:=by
       apply Array.toList_inj.1;simp
      rw [e2];exact hrun)
 rw [hsem,hexec,Oper.uponIn_round]
 refine ⟨fun e=>(by rw[hF.depth]at e;cases e),hround.mono fun e w' ⟨x,m',lh',he,g1,g2,g3,g4,g5⟩=>?_⟩
 subst he
 have hp:∀ b,IR B l rec W1 lh0 m0 m' (eb sl o.dst (.bool b)) lh' (Hr x) (a.put o.dst (.bool b)) w':=fun b=>by
  refine ⟨?_,by cases o.dst<;>exact hs.df,g1,hs.ext.trans g2,g3,g4⟩
  rw [CZ]
  cases o.dst with
  |none=>exact cA g2.1 _ _ hs.vs
  |some d=>exact jH d (cA g2.1 _ _ hs.vs) (by simp only[vrel])
 refine ih x lh' m' _ w' ?_ g5
 exact hp _
theorem yag {ops:Array Oper} (hF:jU F) (hS:∀ f,(S f).Ok P f) (hE:∀ t∈eqs,cU P t) (hY:YS B F n P l rec W1 lh0 m0 Y) {Q:Exit->Act->World->Prop}:∀ (os:List Oper) (xs:List m7) (k:Nat) (sl:List ak) (lh:List ao) (m:aF) (g:Option Ex) (a:Act) (w:World) (K:List ak->List ao->Option Ex->Prop),
 (∀ j,os[j]? = ops[k+j]?)->jK P eqs ops os=some xs->cg B.w0 S l Y xs sl lh g K->IR B l rec W1 lh0 m0 m sl lh g a w ->
 (∀ sl' lh' m' g' a' w',IR B l rec W1 lh0 m0 m' sl' lh' g' a' w'->K sl' lh' g'->Q .normal a' w')->wpOpsIn F n P ops Q (List.range' k os.length) a w
 | [],xs,k,sl,lh,m,g,a,w,K,_,hc,hv,hs,hQ=>by
   simp only [jK,aaB]at hc;subst hc
   exact hQ _ _ _ _ _ _ hs hv
 | o :: os, xs,k,sl,lh,m,g,a,w,K,hl,hc,hv,hs,hQ=>by
   have h0:ops[k]? = some o:=by simpa using(hl 0).symm
   have hl':∀ j,os[j]? = ops[k+1+j]? := fun j=>by have:=hl (j+1);simpa[aoY,ari 1 j] using this
   simp only [jK]at hc
   split at hc
   ·cases hc
   ·rename_i xs' hxs
    have ih:=fun sl1 lh1 m1 g1 a1 w1 hv hs=>yag hF hS hE hY os xs' (k+1) sl1 lh1 m1 g1 a1 w1 K hl' hxs hv hs hQ
    split at hc
    ·rename_i t az hy
     cases hc
     simp only [cg]at hv
     obtain ⟨rfl,hy0,hv⟩:=hv
     unfold r4 at hy
     split at hy
     ·rename_i c hg ho
      split at hy
      ·rename_i t hcal
       cases hy
       simp only [adM,anv,wpOpsIn,h0]
       rw [aby (by simp[Region.wanted,hg])]
       exact v6 hF hY hs hy0 hv ho hcal fun x lh' m' a' w' h1 h2=>by
        cases x<;>exact ih _ _ _ _ _ _ h2 h1
      ·cases hy
     ·cases hy
    ·split at hc
     ·rename_i d want t az hy
      cases hc
      simp only [cg]at hv
      unfold qj at hy
      split at hy
      ·rename_i j wt c hg ho
       split at hy
       ·rename_i t2 d2 hcal hd
        cases hy
        simp only [adM,anv,wpOpsIn,h0]
        have hsr:iT (B.at m lh w []) m sl lh a w:=⟨hs.vs,hs.df,hs.hh.rebase []⟩
        obtain ⟨y1,y2,y3⟩:=yai (ops:=ops) hs.vs hd
        split at hv
        ·rename_i b hb
         have hyb:=y1 b hb
         have hs':=hs.step (eV hsr hb) (hG.refl _ _)
         by_cases hbw:b=want
         ·subst hbw
          obtain ⟨rfl,hy0,hv⟩:=hv.1 rfl
          rw [aby (by simp[Region.wanted,hg,hyb])]
          exact v6 hF hY hs' hy0 hv ho hcal fun x lh' m' a' w' h1 h2=>by
           cases x<;>exact ih _ _ _ _ _ _ h2 h1
         ·have hbn:b=!want:=by cases b<;>cases want<;>simp_all
          rw [aaT (by simp[Region.wanted,hg,hyb,hbw])]
          refine ⟨fun f _=>hF.fn f,?_⟩
          have hsr':=eV hsr hb
          rw [hbn]at hsr'
          exact ih _ _ _ _ _ _ (hv.2 hbn) (hs.step (hsr'.put (aF.le_refl m) (hs.hh.rebase []) o.dst (by simp[vrel,ar,undef])) (hG.refl _ _))
        ·rename_i vs hb
         rw [aaT (by simp[Region.wanted,hg,y2 _ hb])]
         refine ⟨fun f _=>hF.fn f,?_⟩
         exact ih _ _ _ _ _ _ hv (hs.step ((eV hsr hb).put (aF.le_refl m) (hs.hh.rebase []) o.dst (by simp[vrel,ar,undef])) (hG.refl _ _))
        ·rename_i hb
         rw [aaT (by simp[Region.wanted,hg,y3 _ _ hb])]
         refine ⟨fun f _=>hF.fn f,?_⟩
         exact ih _ _ _ _ _ _ hv (hs.step (hsr.put (aF.le_refl m) (hs.hh.rebase []) o.dst (by simp[vrel,ar,undef])) (hG.refl _ _))
        ·exact hv.elim
       ·cases hy
      ·cases hy
     split at hc
     ·rename_i x hx
      cases hc
      simp only [cg]at hv
      have hj0:∀ j,j<[o].length->[o][j]? = ops[k+j]? := fun j hj=>by
       obtain rfl:j=0:=by simpa using hj
       simpa using hl 0
      have:=oo (n:=n) (ops:=ops) (B:=B.at m lh w []) (Q:=Q) hF (fun f=>(hS f).sound) hE (List.range' (k+1) os.length) [o] [x] k sl lh m a w _ hj0 (by simp[eM,hx]) hv ⟨hs.vs,hs.df,hs.hh.rebase []⟩ (fun sl' lh' m' a' w' h1 h2 h3=>ih _ _ _ _ _ _ h3 (hs.step h1 h2))
      simpa [anv] using this
     ·cases hc
theorem vM {ops:Array Oper} {Q:Exit->Act->World->Prop}:∀ (f k fuel:Nat) (listed:Array Bool) (a:Act) (w:World),f<=fuel->xq ops f k listed=true->wpOpsIn F n P ops Q (List.range' k f) a w->wpAnyIn F n P .any ops Q fuel listed a w
 | 0,k,fuel,listed,a,w,_,ht,h=>by
   have hr:Region.ready .any ops listed=[]:=by simpa[xq] using ht
   cases fuel with
   |zero=>exact⟨hr,h⟩
   |succ fuel=>exact⟨fun _=>h,fun i hi=>by rw[hr]at hi;cases hi⟩
 |f+1,k,0,listed,a,w,hf,_,_=>by omega
 | f+1,k,fuel+1,listed,a,w,hf,ht,h=>by
   simp only [xq,aaw,ajU]at ht
   refine ⟨fun e=>(by rw[ht.1]at e;cases e),fun i hi=>?_⟩
   rw [ht.1]at hi
   obtain rfl:i=k:=by simpa using hi
   simp only [anv,wpOpsIn_cons]at h
   exact wpOpIn_mono (fun a w h=>vM f (i+1) fuel _ a w (by omega) ht.2 h) h
theorem zi {n y:Nat} {L:Array Bool} (hs:L.size=n) (h1:∀ i,i<y->L.getD i false=true) (h2:∀ i,y<=i->L.getD i false=false):L=wc n y:=by
 apply Array.ext
 ·simp[wc,hs]
 ·intro i hi hi'
  have e:L.getD i false=L[i]:=by simp[hi]
  simp only [wc,List.getElem_toArray,List.getElem_map,List.getElem_range]
  rw [← e]
  by_cases hy:i<y
  ·rw[h1 i hy];simp[Nat.blt_eq,hy]
  ·rw[h2 i (by omega)];cases hb:Nat.blt i y with
   |false=>rfl
   |true=>exact(hy (by simpa[Nat.blt_eq] using hb)).elim
theorem tM {ops:Array Oper} (hb:F4 ops=true) {y:Nat} (hy:y<=ops.size) {L:Array Bool} (hs:L.size=ops.size) (hr:Region.ready .any (ops.toList.take y).toArray L=[]):∀ i,i<y->L.getD i false=true:=by
 intro i
 induction i using Nat.strongRecOn with
 | ind i ih =>
   intro hi
   apply Classical.byContradiction
   intro hne
   have hlt:i<ops.size:=by omega
   have hm:i∈Region.ready .any (ops.toList.take y).toArray L:=by
    refine mem_ready.2 ⟨?_,ops[i],?_,fun e he hbe=>?_⟩
    ·have:i<L.size:=by omega
     simp only [aqM,apg this,aqj]at hne ⊢
     simpa using hne
    ·simp[hi,hlt]
    ·have h1:=List.all_eq_true.1 hb i (by simpa using hlt)
     rw [apg hlt]at h1
     have h2:=List.all_eq_true.1 h1 e (by simpa using he)
     rw [hbe]at h2
     have h3:e.on<i:=by simpa[Nat.blt_eq] using h2
     exact ih e.on h3 (by omega)
   rw [hr]at hm;cases hm
theorem Dh {ops:Array Oper} (hF:jU F) (hS:∀ f,(S f).Ok P f) (hE:∀ t∈eqs,cU P t) {y n0:Nat} {B:cY} {ds:List gQ} {Ws:List (List Nat)} {xs:List gS} (hc:eM P eqs ops (ops.toList.take y)=some xs) (hd:∀ j:Nat,ds[j]?.map gQ.o=xs[j]?)
 (hb:F4 ops=true) (hdep:PG ops y=true) (hy:y<=ops.size) {K:List ak->List ao->Prop} {Q:Exit->Act->World->Prop} {lh0:List ao} {m0:aF} {r:Nat}
 (hQ:∀ sl' lh' m' a' w' fuel,iT B m' sl' lh' a' w'->hG lh0 m0 lh' m'->K sl' lh'->r<=fuel->wpAnyIn F n P .any ops Q fuel (wc ops.size y) a' w') :
 ∀ (fuel:Nat) (listed:Array Bool) (sl:List ak) (lh:List ao) (m:aF) (a:Act) (w:World),listed.size=ops.size->(∀ i,y<=i->listed.getD i false=false)->fA ops listed->iT B m sl lh a w->hG lh0 m0 lh m->FL B.w0 S (ops.toList.take y).toArray ds Ws n0 K fuel listed sl lh->wpAnyIn F n P .any ops Q (fuel+r) listed a w:=by
 intro fuel
 induction fuel with
 | zero =>
   intro listed sl lh m a w hsz hl hcl hs he h
   rw [zi hsz (tM hb hy hsz h.1) hl]
   exact hQ _ _ _ _ _ _ hs he h.2 (by omega)
 | succ fuel ih =>
   intro listed sl lh m a w hsz hl hcl hs he h
   by_cases hr:Region.ready .any (ops.toList.take y).toArray listed=[]
   ·rw[zi hsz (tM hb hy hsz hr) hl]
    exact hQ _ _ _ _ _ _ hs he (h.1 hr) (by omega)
   ·obtain ⟨j,hj⟩:=List.exists_mem_of_ne_nil _ hr
    obtain ⟨hj1,oj,hoj,hj3⟩:=mem_ready.1 hj
    have hget:∀ i o,(ops.toList.take y).toArray[i]? = some o->i<y/\ops[i]? = some o:=fun i o hi=>by
     simp only [aox,afz]at hi
     split at hi
     ·rename_i hlt;exact⟨hlt,by simpa using hi⟩
     ·cases hi
    obtain ⟨hjy,hoj'⟩:=hget j oj hoj
    have hjf:listed.getD j false=false:=by
     have:j<listed.size:=by rw[hsz];exact(Array.getElem?_eq_some_iff.1 hoj').1
     simp only [aqM,apg this,aqj]at hj1 ⊢
     exact hj1
    have hin:∀ i,i∈Region.ready .any ops listed->i<y/\i∈Region.ready .any (ops.toList.take y).toArray listed:=fun i hi=>by
     obtain ⟨hi1,oi,hoi,hi3⟩:=mem_ready.1 hi
     unfold PG at hdep
     simp only [aaw]at hdep
     have hlt:i<y:=by
      apply Classical.byContradiction
      intro hge
      by_cases e:i=y
      ·subst e
       have:=eK hcl ops.size i oi hoi hi3 (List.all_eq_true.1 hdep.1 j (by simpa using hjy))
       rw [hjf]at this;cases this
      ·have h1:=List.all_eq_true.1 hdep.2 i (by simpa using(Array.getElem?_eq_some_iff.1 hoi).1)
       have h2:Nat.ble i y=false:=by
        cases hb:Nat.ble i y with
        |false=>rfl
        |true=>have:=aaF hb;omega
       rw [h2,Bool.false_or]at h1
       have:=eK hcl ops.size i oi hoi hi3 h1
       rw [hl y (aaS _)]at this;cases this
     exact ⟨hlt,mem_ready.2 ⟨hi1,oi,by simpa[afz,hlt] using hoi,hi3⟩⟩
    rw [show fuel+1+r=(fuel+r)+1 by omega]
    refine ⟨fun e=>?_,fun i hi=>?_⟩
    ·have hm:j∈Region.ready .any ops listed:=mem_ready.2 ⟨hj1,oj,hoj',hj3⟩
     have e':Region.ready .any ops listed=[]:=e
     rw [e']at hm;cases hm
    ·have hi':i∈Region.ready .any ops listed:=hi
     obtain ⟨hiy,hir⟩:=hin i hi'
     have h2:=h.2 i hir
     obtain ⟨_,o,ho,_⟩:=mem_ready.1 hi'
     obtain ⟨x,hx,hco⟩:=kv (ops.toList.take y) xs i o hc (by simpa[afz,hiy] using ho)
     have hdi:=hd i
     rw [hx]at hdi
     simp only [aaD]at hdi
     obtain ⟨d,hd1,hd2⟩:=hdi
     unfold Cw at h2
     simp only [hd1]at h2
     rw [hd2]at h2
     exact yS hF hS hE ho hco hs h2 fun sl' lh' m' a' w' h3 h4 h5=>ih _ sl' lh' m' a' w' (by simpa using hsz) (fun k hk=>by rw[getD_set_ne false (by omega)];exact hl k hk) (eO hcl hi') h3 (he.trans h4) h5
theorem xZ {ops:Array Oper} (hF:jU F) (hS:∀ f,(S f).Ok P f) (hE:∀ t∈eqs,cU P t) (hY:YS B F n P l rec W1 lh0 m0 Y) {y id:Nat} {ds:List gQ} {its:List m7} (hc:sI P eqs ops y=some (ds,its)) {sl:List ak} {lh:List ao} {m:aF} {g:Option Ex} {a:Act} {w:World} {Q:IQ}
 (hs:IR B l rec W1 lh0 m0 m sl lh g a w) (hv:mr B.w0 S ds sl lh fun sl lh=>cg B.w0 S l Y its sl lh g (Q .normal)):(Code.region id ops true).wpIn F n P (QI B l rec W1 lh0 m0 Q) a w:=by
 unfold sI at hc
 split at hc
 ·rename_i xs its' hxs hits
  split at hc
  ·rename_i hcond
   cases hc
   simp only [aaw,ajU]at hcond
   obtain ⟨⟨⟨⟨⟨⟨⟨⟨h1,h2⟩,h3⟩,h4⟩,h5⟩,h6⟩,h7⟩,h8⟩,h9⟩:=hcond
   have h5':=aaF h5
   have hA:(ops.toList.take y).toArray.size=y:=by simp;omega
   obtain ⟨hw,ht⟩:=hv
   have hw':KS (gD (ops.toList.take y).toArray xs (cm xs 0) xs 0) (kC B.w0 lh sl lh.length (gD (ops.toList.take y).toArray xs (cm xs 0) xs 0)):=fun i d hd=>by
    refine ⟨fun hnw=>?_,?_⟩
    ·unfold wOf
     rw [oS,hd]
     have:=List.all_eq_true.1 h6 d (amg hd)
     simp [hnw]at this
     simp [this,tf]
    ·have:=nE (ds:=gD (ops.toList.take y).toArray xs (cm xs 0) xs 0) (gD (ops.toList.take y).toArray xs (cm xs 0) xs 0) 0 (fun j=>by simp) hw i d (by simpa using hd)
     simpa using this
   generalize kC B.w0 lh sl lh.length (gD (ops.toList.take y).toArray xs (cm xs 0) xs 0)=Ws at hw ht hw'
   refine wpIn_region_any h1 ?_
   have hcl:∀ os:Array Oper,fA os (Array.replicate ops.size false):=fun os k o hk=>by
    simp [amS]at hk
    split at hk<;>simp at hk
   have hany:=mt hS hw' h2 (h4.trans hA.symm) (gD (ops.toList.take y).toArray xs (cm xs 0) xs 0) 0 _ sl _ (fun j=>by simp) h3 (hcl _) ht
   have hext:hG lh m (lh++List.replicate (Rx (gD (ops.toList.take y).toArray xs (cm xs 0) xs 0)) .dead) m:=⟨aF.le_refl m,fun k hk=>⟨by rw[aaQ (List.getElem?_eq_some_iff.1 hk).1];exact hk,rfl⟩⟩
   rw [h4]at hany
   have:=Dh (n:=n) (r:=ops.size-y) (B:=B.at m lh w []) (Q:=QI B l rec W1 lh0 m0 Q) hF hS hE hxs (xh (ops.toList.take y).toArray xs (cm xs 0) xs 0) h7 h8 h5' (lh0:=lh) (m0:=m) (fun sl' lh' m' a' w' fuel g1 g2 g3 g4=>by
    refine vM (ops.size-y) y fuel _ a' w' g4 h9 ?_
    have:=yag (n:=n) (ops:=ops) (Q:=QI B l rec W1 lh0 m0 Q) hF hS hE hY (ops.toList.drop y) its y sl' lh' m' g a' w' (Q .normal) (fun j=>by simp) hits g3 (hs.step g1 g2) (fun sl' lh' m' g' a' w' h1 h3=>⟨.normal,sl',lh',m',g',rfl,h1,h3⟩)
    simpa using this) y (Array.replicate ops.size false) sl _ m a { w with drawn:=w.drawn+1 } (by simp) (fun i _=>by simp[amS];split<;>rfl) (hcl ops) ⟨hs.vs,hs.df,((hs.hh.rebase []).deads _).drew _⟩ hext hany
   rwa [show y+(ops.size-y)=ops.size by omega]at this
  ·cases hc
 ·cases hc
theorem GA (hF:jU F) (hS:∀ f,(S f).Ok P f) (hE:∀ t∈eqs,cU P t) (hY:YS B F n P l rec W1 lh0 m0 Y):∀ (c:Code) (s:gW) (sl:List ak) (lh:List ao) (m:aF) (g:Option Ex) (a:Act) (w:World) (Q:IQ),
 jl P eqs c=some s->IR B l rec W1 lh0 m0 m sl lh g a w->kg B.w0 S l Y s sl lh g Q->c.wpIn F n P (QI B l rec W1 lh0 m0 Q) a w:=by
 intro c
 induction c with
 |skip=>intro s sl lh m g a w Q hc hs hv;cases hc;exact wpIn_skip ⟨.normal,sl,lh,m,g,rfl,hs,hv⟩
 |label t=>intro s sl lh m g a w Q hc hs hv;cases hc;exact wpIn_label ⟨.normal,sl,lh,m,g,rfl,hs,hv⟩
 | region id ops dr =>
   intro s sl lh m g a w Q hc hs hv
   cases dr with
   | false =>
     simp only [jl,aaD]at hc
     obtain ⟨xs,hxs,rfl⟩:=hc
     refine wpIn_region ?_
     have:=yag (n:=n) (ops:=ops) (Q:=QI B l rec W1 lh0 m0 Q) hF hS hE hY ops.toList xs 0 sl lh m g a w (Q .normal) (by simp) hxs hv hs (fun sl' lh' m' g' a' w' h1 h3=>⟨.normal,sl',lh',m',g',rfl,h1,h3⟩)
     rwa [aqs,← anm]
   | true =>
     simp only [jl]at hc
     split at hc
     ·simp only[aaD]at hc
      obtain ⟨ds,hds,rfl⟩:=hc
      exact rj (B:=B.at m lh w []) hF hS hE hds ⟨hs.vs,hs.df,hs.hh.rebase []⟩ hv (fun sl' lh' m' a' w' h1 h2 h3=>⟨.normal,sl',lh',m',g,rfl,hs.step h1 h2,h3⟩)
     ·simp only[aaD]at hc
      obtain ⟨⟨ds,its⟩,hds,rfl⟩:=hc
      exact xZ hF hS hE hY hds hs hv
 | seq x y ihx ihy =>
   intro s sl lh m g a w Q hc hs hv
   simp only [jl]at hc
   split at hc
   ·rename_i sx sy hx hy
    cases hc
    refine wpIn_seq (wpIn_mono (ihx sx sl lh m g a w _ hx hs hv) fun e a' w' hq=>?_)
    obtain ⟨ex,sl',lh',m',g',rfl,h1,h3⟩:=hq
    cases ex with
    |normal=>exact ihy sy sl' lh' m' g' a' w' Q hy h1 h3
    |exit i=>exact⟨.exit i,sl',lh',m',g',rfl,h1,h3⟩
    |ret=>exact⟨.ret,sl',lh',m',g',rfl,h1,h3⟩
   ·cases hc
 | cond c x y ihx ihy =>
   intro s sl lh m g a w Q hc hs hv
   simp only [jl]at hc
   split at hc
   ·rename_i sx sy hx hy
    cases hc
    simp only [kg]at hv
    have ha:=aT hs.vs c
    split at hv
    ·rename_i t ht
     rw [ht]at ha
     exact wpIn_cond_split (gY ha) (fun e=>ihx sx sl lh m g a w Q hx hs (hv.1 e)) (fun e=>ihy sy sl lh m g a w Q hy hs (hv.2 e))
    ·exact hv.elim
   ·cases hc
 | block id x ih =>
   intro s sl lh m g a w Q hc hs hv
   simp only [jl,aaD]at hc
   obtain ⟨sx,hx,rfl⟩:=hc
   refine wpIn_block (wpIn_mono (ih sx sl lh m g a w _ hx hs hv) fun e a' w' hq=>?_)
   obtain ⟨ex,sl',lh',m',g',rfl,h1,h3⟩:=hq
   cases ex with
   |normal=>exact⟨.normal,sl',lh',m',g',rfl,h1,h3⟩
   | exit i =>
     simp only [Uj,Exit.inBlock]
     simp only [wh]at h3
     split at h3
     ·rename_i e;rw[aby e];exact⟨.normal,sl',lh',m',g',rfl,h1,h3⟩
     ·rename_i e;rw[aaT e];exact⟨.exit i,sl',lh',m',g',rfl,h1,h3⟩
   |ret=>exact⟨.ret,sl',lh',m',g',rfl,h1,h3⟩
 | loop x ih =>
   intro s sl lh m g a w Q hc hs hv
   simp only [jl,aaD]at hc
   obtain ⟨sx,hx,rfl⟩:=hc
   simp only [kg]at hv
   obtain ⟨ι,shs,shl,shg,μ,i0,rfl,rfl,rfl,hr⟩:=hv
   refine m5 (fun k a w=>∃ i m',IR B l rec W1 lh0 m0 m' (shs i) (shl i) (shg i) a w/\μ i=k) ⟨_,i0,m,hs,rfl⟩ fun k a w hI=>?_
   obtain ⟨i,m',hi,rfl⟩:=hI
   refine wpIn_mono (ih sx (shs i) (shl i) m' (shg i) a w _ hx hi (hr i)) fun e a' w' hq=>?_
   obtain ⟨ex,sl',lh',m2,g',rfl,h1,h3⟩:=hq
   cases ex with
   | normal =>
     obtain ⟨i',rfl,rfl,rfl,hlt⟩:=h3
     exact ⟨_,hlt,i',m2,h1,rfl⟩
   |exit j=>exact⟨.exit j,sl',lh',m2,g',rfl,h1,h3⟩
   |ret=>exact⟨.ret,sl',lh',m2,g',rfl,h1,h3⟩
 |exit id=>intro s sl lh m g a w Q hc hs hv;cases hc;exact wpIn_exit ⟨.exit id,sl,lh,m,g,rfl,hs,hv⟩
 |ret=>intro s sl lh m g a w Q hc hs hv;cases hc;exact wpIn_ret ⟨.ret,sl,lh,m,g,rfl,hs,hv⟩
 | scope x ih =>
   intro s sl lh m g a w Q hc hs hv
   simp only [jl,aaD]at hc
   obtain ⟨sx,hx,rfl⟩:=hc
   exact jo (fun t a w ⟨ex,_,_,_,_,h,_⟩=>by cases ex<;>cases h) (ih sx sl lh m g a w Q hx hs hv)
 |_=>intro s sl lh m g a w Q hc;cases hc
end it
def resV (tmps:Array Value):ResultVar->Sem Value
 |.tmp t=>pure (tmps.getD t undef)
 |.cell b t=>do loadVar t (← asAddr (tmps.getD b undef))
def sP:List Value->Value
 |[v]=>v
 |vs=>.tuple vs.toArray
theorem tE {fn:Func} {tmps:Array Value} {w:World} {vs:List Value} (h:(fn.results.toList.mapM (resV tmps)).run P w=.ok vs w):(results fn tmps).run P w=.ok (sP vs) w:=by
 have e0:results fn tmps=(do let vs ← fn.results.mapM (resV tmps);pure (if h:vs.size=1 then vs[0] else .tuple vs)):=by
  unfold results
  congr 2
 have h2:(fn.results.mapM (resV tmps)).run P w=.ok vs.toArray w:=by
  rw [Array.mapM_eq_mapM_toList]
  show (do pure (← fn.results.toList.mapM (resV tmps)).toArray:Sem (Array Value)).run P w=_
  rw [ab h];rfl
 rw [e0,ab h2]
 match vs with
 |[]=>rfl
 |[v]=>rfl
 |v::u::l=>simp[sP]
def kG (P : Program) (eqs : List TypeId) (its : List gH) : Prop := ∀ it ∈ its, ∃ fn, P.funcs[it.f]? = some fn /\ (fn.name == "runtime.NumGoroutine") = false /\ qG P eqs fn = some (it.ntmps, it.body)
theorem oC:∀ {its:List gH} {f:FuncId} {it:gH},CC its f=some it->it∈its/\it.f=f
 |[],_,_,h=>by cases h
 | x::l,f,it,h=>by
   simp only [CC]at h
   split at h
   ·rename_i e;cases h;exact⟨ahE,e.symm⟩
   ·exact⟨adx _ (oC h).1,(oC h).2⟩
theorem yG {m:aF}:∀ (ps:List Nat) (sl xs:List ak) (us:Array Value) (vs:List Value),ar m sl us.toList->ar m xs vs->xs.length=ps.length ->
 ar m (kA sl ps xs) ((ps.zip vs).foldl (fun t (p,v)=>t.setIfInBounds p v) us).toList
 |[],sl,xs,us,vs,h,_,_=>by cases xs<;>simpa[kA] using h
 |p::ps,sl,[],us,vs,_,_,hl=>by cases hl
 | p::ps,sl,x::xs,us,vs,h,hx,hl=>by
   simp only [ar]at hx
   obtain ⟨u,us',rfl,h1,h2⟩:=hx
   simp only [kA,List.zip_cons_cons,List.foldl_cons]
   exact yG ps _ xs _ us' (by rw[aqV];exact jH p h h1) h2 (by simpa using hl)
theorem SR.step {m m':aF} {sl sl':List ak} {lh lh':List ao} {a a':Act} {w w':World} (h:SR B m sl lh a w) (hs:iT (B.at m lh w a.defers) m' sl' lh' a' w'):SR B m' sl' lh' a' w'/\KeepsOthers w w':=by
 obtain ⟨h1,h2⟩:=h.2.2.unbase hs.2.2
 exact ⟨⟨hs.1,by rw[hs.2.1];exact nU h2 h.2.1,h1⟩,h2⟩
def uA (F:Fence) (w:World):Prop:=F.round=none∨∃ l0 r0,F.round=some l0/\w.heap[l0]? = some (.loop r0)
theorem uA.keeps {F:Fence} {w w':World} (h:uA F w) (hk:KeepsOthers w w'):uA F w' :=
 h.imp_right fun ⟨l0,r0,h1,h2⟩=>⟨l0,r0,h1,hk.same _ _ h2 rfl⟩
theorem BB {its:List gH} (hS:∀ f,(S f).Ok P f) (hE:∀ t∈eqs,cU P t) (hI:kG P eqs its):∀ (c:Code) (F:Fence) (n nb:Nat) (B:cY) (s:fS) (sl:List ak) (lh:List ao) (m:aF) (a:Act) (w:World) (Q:Ex->List ak->List ao->Prop),
 jU F->uA F w->cN P eqs its c=some s->SR B m sl lh a w->bY B.w0 S nb s sl lh Q->c.wpIn F n P (QC B nb lh m w Q) a w:=by
 have hSS:∀ f,(S f).Sound P f:=fun f=>(hS f).sound
 intro c
 induction c with
 |skip=>intro F n nb B s sl lh m a w Q hF hr hc hs hv;cases hc;exact wpIn_skip ⟨.normal,sl,lh,m,rfl,hs,nf.refl _ _ _,.refl _,hv⟩
 |label l=>intro F n nb B s sl lh m a w Q hF hr hc hs hv;cases hc;exact wpIn_label ⟨.normal,sl,lh,m,rfl,hs,nf.refl _ _ _,.refl _,hv⟩
 | region id ops dr =>
   intro F n nb B s sl lh m a w Q hF hr hc hs hv
   cases dr with
   | false =>
     simp only [cN,aaD]at hc
     obtain ⟨xs,hxs,rfl⟩:=hc
     refine wpIn_region ?_
     have:=oo (n:=n) (ops:=ops) (B:=B.at m lh w a.defers) (Q:=QC B nb lh m w Q) hF hSS hE [] ops.toList xs 0 sl lh m a w (Q .normal) (by simp) hxs hv ⟨hs.1,rfl,hs.2.2.rebase _⟩ (fun sl' lh' m' a' w' h1 h2 h3=>⟨.normal,sl',lh',m',rfl,(hs.step h1).1,h2.toN nb,(hs.step h1).2,h3⟩)
     rw [apz]at this
     rwa [aqs,← anm]
   | true =>
     simp only [cN]at hc
     split at hc
     ·rename_i t ht
      cases hc
      exact Eo (B:=B.at m lh w a.defers) hF hS hE ht ⟨hs.1,rfl,hs.2.2.rebase _⟩ hv (fun sl' lh' m' a' w' h1 h2 h3=>⟨.normal,sl',lh',m',rfl,(hs.step h1).1,h2.toN nb,(hs.step h1).2,h3⟩)
     ·split at hc
      ·rename_i t ht
       cases hc
       exact Fw (B:=B.at m lh w a.defers) hF hS hE ht ⟨hs.1,rfl,hs.2.2.rebase _⟩ hv (fun sl' lh' m' a' w' h1 h2 h3=>⟨.normal,sl',lh',m',rfl,(hs.step h1).1,h2.toN nb,(hs.step h1).2,h3⟩)
      simp only [aaD]at hc
      obtain ⟨ds,hds,rfl⟩:=hc
      exact rj (B:=B.at m lh w a.defers) hF hS hE hds ⟨hs.1,rfl,hs.2.2.rebase _⟩ hv (fun sl' lh' m' a' w' h1 h2 h3=>⟨.normal,sl',lh',m',rfl,(hs.step h1).1,h2.toN nb,(hs.step h1).2,h3⟩)
 | seq x y ihx ihy =>
   intro F n nb B s sl lh m a w Q hF hr hc hs hv
   simp only [cN]at hc
   split at hc
   ·rename_i sx sy hx hy
    cases hc
    refine wpIn_seq (wpIn_mono (ihx F n nb B sx sl lh m a w _ hF hr hx hs hv) fun e a' w' hq=>?_)
    obtain ⟨ex,sl',lh',m',rfl,h1,h2,hk,h3⟩:=hq
    cases ex with
    |normal=>exact wpIn_mono (ihy F n nb B sy sl' lh' m' a' w' Q hF (hr.keeps hk) hy h1 h3) fun e a'' w''=>QC.of h2 hk fun _ _ _ h=>h
    |exit i=>exact⟨.exit i,sl',lh',m',rfl,h1,h2,hk,h3⟩
    |ret=>exact⟨.ret,sl',lh',m',rfl,h1,h2,hk,h3⟩
   ·cases hc
 | cond c x y ihx ihy =>
   intro F n nb B s sl lh m a w Q hF hr hc hs hv
   simp only [cN]at hc
   split at hc
   ·rename_i sx sy hx hy
    cases hc
    simp only [bY]at hv
    have ha:=aT hs.1 c
    split at hv
    ·rename_i t ht
     rw [ht]at ha
     exact wpIn_cond_split (gY ha) (fun e=>ihx F n nb B sx sl lh m a w Q hF hr hx hs (hv.1 e)) (fun e=>ihy F n nb B sy sl lh m a w Q hF hr hy hs (hv.2 e))
    ·exact hv.elim
   ·cases hc
 | block id x ih =>
   intro F n nb B s sl lh m a w Q hF hr hc hs hv
   simp only [cN,aaD]at hc
   obtain ⟨sx,hx,rfl⟩:=hc
   refine wpIn_block (wpIn_mono (ih F n nb B sx sl lh m a w _ hF hr hx hs hv) fun e a' w' hq=>?_)
   obtain ⟨ex,sl',lh',m',rfl,h1,h2,hk,h3⟩:=hq
   cases ex with
   |normal=>exact⟨.normal,sl',lh',m',rfl,h1,h2,hk,h3⟩
   | exit i =>
     simp only [Uj,Exit.inBlock]
     simp only [vF]at h3
     split at h3
     ·rename_i e;rw[aby e];exact⟨.normal,sl',lh',m',rfl,h1,h2,hk,h3⟩
     ·rename_i e;rw[aaT e];exact⟨.exit i,sl',lh',m',rfl,h1,h2,hk,h3⟩
   |ret=>exact⟨.ret,sl',lh',m',rfl,h1,h2,hk,h3⟩
 | loop x ih =>
   intro F n nb B s sl lh m a w Q hF hr hc hs hv
   simp only [cN,aaD]at hc
   obtain ⟨sx,hx,rfl⟩:=hc
   simp only [bY]at hv
   obtain ⟨ι,shs,shl,μ,i0,h0,hrd⟩:=hv
   have sub:∀ {m:aF} {sl sl1:List ak} {lh lh1:List ao} {a:Act} {w:World},Sub nb sl lh sl1 lh1->SR B m sl lh a w->∃ m1,SR B m1 sl1 lh1 a w/\nf nb lh m lh1 m1:=fun {m sl sl1 lh lh1 a w} h1 h2=>by
    obtain ⟨m1,g1,g2⟩:=h1.rel (B:={ B with ds:=a.defers }) (a:=a) (w:=w) (m:=m) ⟨h2.1,rfl,h2.2.2.withDs _⟩
    exact ⟨m1,⟨g1.1,h2.2.1,g1.2.2.noDs⟩,g2⟩
   obtain ⟨m1,hs1,he1⟩:=sub h0 hs
   refine m5 (fun k a w'=>∃ i m',SR B m' (shs i) (shl i) a w'/\nf nb lh m (shl i) m'/\KeepsOthers w w'/\μ i=k) ⟨_,i0,m1,hs1,he1,.refl _,rfl⟩ fun k a w1 hI=>?_
   obtain ⟨i,m',hi,he,hk,rfl⟩:=hI
   refine wpIn_mono (ih F n nb B sx (shs i) (shl i) m' a w1 _ hF (hr.keeps hk) hx hi (hrd i)) fun e a' w' hq=>?_
   obtain ⟨ex,sl',lh',m2,rfl,h1,h2,hk2,h3⟩:=hq
   cases ex with
   | normal =>
     obtain ⟨i',hsub,hlt⟩:=h3
     obtain ⟨m3,hs3,he3⟩:=sub hsub h1
     exact ⟨_,hlt,i',m3,hs3,(he.trans h2).trans he3,hk.trans hk2,rfl⟩
   |exit j=>exact⟨.exit j,sl',lh',m2,rfl,h1,he.trans h2,hk.trans hk2,h3⟩
   |ret=>exact⟨.ret,sl',lh',m2,rfl,h1,he.trans h2,hk.trans hk2,h3⟩
 |exit id=>intro F n nb B s sl lh m a w Q hF hr hc hs hv;cases hc;exact wpIn_exit ⟨.exit id,sl,lh,m,rfl,hs,nf.refl _ _ _,.refl _,hv⟩
 |ret=>intro F n nb B s sl lh m a w Q hF hr hc hs hv;cases hc;exact wpIn_ret ⟨.ret,sl,lh,m,rfl,hs,nf.refl _ _ _,.refl _,hv⟩
 | scope x ih =>
   intro F n nb B s sl lh m a w Q hF hr hc hs hv
   simp only [cN,aaD]at hc
   obtain ⟨sx,hx,rfl⟩:=hc
   exact jo (fun l a w ⟨ex,_,_,_,h,_⟩=>by cases ex<;>cases h) (ih F n nb B sx sl lh m a w Q hF hr hx hs hv)
 | rangeFunc gop ps asg body iha ihb =>
   intro F n nb B s sl lh m a w Q hF hr hc hs hv
   simp only [cN]at hc
   split at hc
   ·rename_i sa sb hca hcb
    ·cases hc
     simp only [bY]at hv
     have hg:=aT hs.1 gop
     split at hv
     ·rename_i f ys hfn
      rw [hfn]at hg
      simp only [vrel,ar]at hg
      obtain ⟨us,lb,hg,hus,hys⟩:=hg
      obtain rfl:us=#[]:=by apply Array.toList_inj.1;simpa using hus
      split at hv
      ·rename_i it hit
       obtain ⟨hmem,rfl⟩:=oC hit
       obtain ⟨fn,hf,hnm,hci⟩:=hI it hmem
       unfold qG at hci
       split at hci
       ·rename_i _ _ cb hbody hres
        simp only [aaD,Prod.mk.injEq]at hci
        obtain ⟨si,hsi,hnt,hsb⟩:=hci
        subst hsb
        refine wpIn_rangeFunc ?_
        intro fn0 hfn0
        let F0:Fence:={ F with round:=none }
        have hF0:jU F0:=⟨hF.fn,hF.depth,hF.alive⟩
        obtain ⟨l,mark,D0,rec,W1,hrec,henter,hL1,hkeep1,hH1,hlw,hmark⟩:∃ (l:Nat) (mark:List Deferred) (D0:Nat) (rec:LoopState->Option Code->Loop) (W1:World),rec=(fun st pe=>{ state:=st,pending:=pe,fn:=fn0,tmps:=a.tmps,params:=ps,assign:=asg,body:=body,defers:=D0 })/\(Instr.enterLoop fn0 a.tmps ps asg body F.round).run P w=.ok (l,mark) W1/\W1.heap[l]? = some (.loop (rec .ready none))/\KeepsOthers w W1/\a7 B m lh W1/\w.heap.size<=l/\(∀ w'',KB l W1 w''->KeepsOthers w w''->jj B (mark++a.defers) w''):=by
         rcases hr with hro|⟨l0,r0,hro,hr0⟩
         ·refine ⟨w.heap.size+1,[{ target:=.collected w.heap.size,args:=#[] }],w.heap.size,_,(w.alloc (.deferred (some []))).alloc (.loop { state:=.ready,pending:=none,fn:=fn0,tmps:=a.tmps,params:=ps,assign:=asg,body:=body,defers:=w.heap.size }),rfl,?_,?_,(KeepsOthers.alloc _ _).trans (KeepsOthers.alloc _ _),(hs.2.2.junk _).junk _,by omega,?_⟩
          ·rw[hro];exact run_enterLoop_outer _ _ _ _ _
          ·have:=World.alloc_heap_new (w.alloc (.deferred (some []))) (.loop { state:=.ready,pending:=none,fn:=fn0,tmps:=a.tmps,params:=ps,assign:=asg,body:=body,defers:=w.heap.size });rwa [World.size_alloc]at this
          ·intro w'' hkb hk
           have hK1:=(KeepsOthers.alloc (w.alloc (.deferred (some []))) (.loop { state:=.ready,pending:=none,fn:=fn0,tmps:=a.tmps,params:=ps,assign:=asg,body:=body,defers:=w.heap.size })).same _ _ (World.alloc_heap_new w (.deferred (some []))) rfl
           refine ⟨_,rfl,hkb.same _ _ (by omega) hK1 rfl,⟨hs.2.2.fsize,hs.2.2.size⟩,hs.2.1.old (fun o ho=>?_),nU hk hs.2.1⟩
           have:=(Array.getElem?_eq_some_iff.1 ho).1;omega
         ·refine⟨w.heap.size,[],r0.defers,_,w.alloc (.loop { state:=.ready,pending:=none,fn:=fn0,tmps:=a.tmps,params:=ps,assign:=asg,body:=body,defers:=r0.defers }),rfl,?_,World.alloc_heap_new _ _,KeepsOthers.alloc _ _,hs.2.2.junk _,aaS _,fun w'' _ hk=>nU hk hs.2.1⟩
          rw [hro];exact run_enterLoop_inner hr0 _ _ _ _ _
        have hle0:B.w0.heap.size<=l:=ajf hs.2.2.size hlw
        have hlef:B.wf.heap.size<=l:=ajf hs.2.2.fsize hlw
        refine ⟨l,mark,W1,{ target:=.fn (.func it.f) lb,args:=#[.func (.yield l) #[] #[]] },W1,it.f,
         #[.func (.yield l) #[] #[]]++lb,W1,henter,?_,fun f' _=>hF.fn f',?_,(fun e=>by rw[hF.depth]at e;cases e),?_⟩
        ·simp only[resolve,hg]
         simp [go_sem]
        ·simp only[invoke,callFunc]
         rw [ab (a:=P) (w':=W1) rfl,hf]
         simp only [hnm,hbody,Option.isNone_some,adg,ajL]
         rfl
        ·-- THE ITERATOR
         have hY:YS B F0 (n-1) P l rec W1 lh m (fun xs lh K=>xs.length=ps.toList.length/\bY B.w0 S lh.length sa (kA sl ps.toList xs) lh (tV (fun sl lh'=>bY B.w0 S lh.length sb sl lh' fun x _ lh=>K x lh) fun _ _ _=>False)):=by
          intro m' lh' w' args vs K hh he hrc hkb hvs hy
          obtain ⟨hlen,hy⟩:=hy
          refine ⟨fn0,_,asg,body,by have:=run_yield (P:=P) (args:=vs.toArray) hrc (by rw[hrec];have:=cv hvs;simp;simp at hlen;omega);rw[hrec]at this;exact this,?_⟩
          refine roundIn_of_wpIn hfn0 ?_
          have hsr:SR B m' (kA sl ps.toList args) lh' { tmps:=(ps.zip vs.toArray).foldl (fun t (p,v)=>t.setIfInBounds p v) a.tmps,defers:=[] } w':=by
           refine ⟨?_,trivial,hh⟩
           have:=yG ps.toList sl args a.tmps vs (cA he.1 _ _ hs.1) hvs hlen
           rw [← Array.foldl_toList,Array.toList_zip];simpa using this
          have hFr:jU (F0.inRound l):=⟨hF.fn,hF.depth,hF.alive⟩
          refine wpIn_mono (iha (F0.inRound l) (n-1-1) lh'.length B sa _ lh' m' _ w' _ hFr (.inr ⟨l,_,rfl,hrc⟩) hca hsr hy) fun e a1 w1 hq=>?_
          obtain ⟨ex,sl1,lh1,m1,rfl,h1,h2,hk1,h3⟩:=hq
          cases ex with
          | normal =>
            have hr1:w1.heap[l]? = some (.loop (rec .ready none)):=hk1.same _ _ hrc rfl
            refine ⟨_,run_beginRound hr1 (by rw[hrec]),?_⟩
            have hh1:=h1.2.2.putObj hr1 rfl hlef hle0 (.loop { rec .ready none with state:=.busy })
            have hkb1:=(hkb.keeps hk1).put (.loop { rec .ready none with state:=.busy })
            have hm1:jj B a1.defers (w1.putObj (l) (.loop { rec .ready none with state:=.busy })):=h1.2.1.keeps fun D o hD=>(World.putObj_heap_other (fun e=>by subst e;rw[hr1]at hD;cases hD)).trans hD
            have hlt1:l<w1.heap.size:=(Array.getElem?_eq_some_iff.1 hr1).1
            have hr2:(w1.putObj (l) (.loop { rec .ready none with state:=.busy })).heap[l]? = some (.loop { rec .ready none with state:=.busy }):=World.putObj_heap_same hlt1
            refine wpIn_mono (ihb (F0.inRound l) (n-1-1) lh'.length B sb sl1 lh1 m1 a1 _ _ hFr (.inr ⟨l,_,rfl,hr2⟩) hcb ⟨h1.1,hm1,hh1⟩ h3) fun e a2 w2 hq=>?_
            obtain ⟨ex,sl2,lh2,m2,rfl,k1,k2,hk2,k3⟩:=hq
            have hr3:=hk2.same _ _ hr2 rfl
            have hend:∀ jump:Option Code,(Instr.endRound (l) jump).run P w2=.ok (.bool jump.isNone) (w2.putObj (l) (.loop (rec (if jump.isNone then .ready else .done) jump))):=fun jump=>by
             have:=run_endRound (P:=P) jump hr3
             rw [hrec]at this ⊢;exact this
            have hlt3:l<w2.heap.size:=(Array.getElem?_eq_some_iff.1 hr3).1
            have fin:∀ x,∃ x' m'' lh'',Ending.returned (.bool (Hr x).isNone)=.returned (.bool (Hr x').isNone)/\a7 B m'' lh'' (w2.putObj (l) (.loop (rec (if(Hr x).isNone then .ready else .done) ((Hr x).map jmp))))/\hG lh' m' lh'' m''/\I0 (l) rec (Hr x') (w2.putObj (l) (.loop (rec (if(Hr x).isNone then .ready else .done) ((Hr x).map jmp))))/\KB (l) W1 (w2.putObj (l) (.loop (rec (if(Hr x).isNone then .ready else .done) ((Hr x).map jmp))))/\(K x lh2->K x' lh''):=fun x =>
             ⟨x,m2,lh2,rfl,k1.2.2.putObj hr3 rfl hlef hle0 _,D4 hh (h2.trans k2),World.putObj_heap_same hlt3,(hkb1.keeps hk2).put _,id⟩
            cases ex with
            |normal=>obtain⟨x',m'',lh'',e1,e2,e3,e4,e5,e6⟩:=fin .normal;exact⟨_,_,hend none,x',m'',lh'',e1,e2,e3,e4,e5,e6 k3⟩
            |exit i=>obtain⟨x',m'',lh'',e1,e2,e3,e4,e5,e6⟩:=fin (.exit i);exact⟨_,_,hend (some (.exit i)),x',m'',lh'',e1,e2,e3,e4,e5,e6 k3⟩
            |ret=>obtain⟨x',m'',lh'',e1,e2,e3,e4,e5,e6⟩:=fin .ret;exact⟨_,_,hend (some .ret),x',m'',lh'',e1,e2,e3,e4,e5,e6 k3⟩
          |exit i=>exact h3.elim
          |ret=>exact h3.elim
         have hir:IR B (l) rec W1 lh m m (iZ (l)::ys++List.replicate (it.ntmps-(ys.length+1)) .any) lh none { tmps:=(#[Value.func (.yield (l)) #[] #[]]++lb)++Array.replicate (fn.ntmps-(#[Value.func (.yield (l)) #[] #[]]++lb).size) undef,defers:=[] } W1:=by
          refine ⟨?_,rfl,hH1,hG.refl _ _,hL1,KB.refl _ _⟩
          have hl:=cv hys
          simp only [aqL,Array.toList_replicate,Array.size_append]
          refine dF ?_ ?_
          ·simp only[ar]
           exact ⟨_,_,rfl,by simp only[iZ,vrel],hys⟩
          ·have e:fn.ntmps-(#[Value.func (.yield (l)) #[] #[]].size+lb.size)=it.ntmps-(ys.length+1):=by
            have:lb.size=ys.length:=by simpa using hl
            rw [hnt,this];simp;omega
           rw [e];exact fI _ _
         refine callsIn_of_wp (F:=F0) hf hbody (hF.fn _) (wpIn_mono (GA hF0 hS hE hY cb it.body _ lh m none _ W1 _ hsi hir (hv _)) fun e a' w' hq=>?_) rfl
         obtain ⟨ex,sl',lh',m',g,rfl,hi,hq⟩:=hq
         have hres':(results fn a'.tmps).run P w'=.ok (sP []) w':=by
          refine tE ?_
          rw [hres];rfl
         have hlt:l<w'.heap.size:=(Array.getElem?_eq_some_iff.1 hi.rc).1
         have hfin:∀ x,Q x sl lh'->∃ o,QC B nb lh m w Q (Uj x) { a with defers:=mark++a.defers } (w'.putObj (l) o)/\o=.loop { rec (if g.isNone then .ready else .done) (g.map jmp) with state:=.exhausted }:=fun x hx=>by
          have hk:KeepsOthers w (w'.putObj (l) (.loop { rec (if g.isNone then .ready else .done) (g.map jmp) with state:=.exhausted })):=by
           have hkb:=hi.kb.put (.loop { rec (if g.isNone then .ready else .done) (g.map jmp) with state:=.exhausted })
           exact ⟨ajf hkeep1.size hkb.size,fun k o hk ho=>hkb.same k o (fun e=>by have:=(Array.getElem?_eq_some_iff.1 hk).1;omega) (hkeep1.same k o hk ho) ho⟩
          refine ⟨_,⟨x,sl,lh',m',rfl,⟨cA hi.ext.1 _ _ hs.1,?_,hi.hh.putObj hi.rc rfl hlef hle0 _⟩,hi.ext.toN nb,hk,hx⟩,rfl⟩
          exact hmark _ (hi.kb.put _) hk
         have hendl:=run_endLoop (P:=P) hi.rc (by rw[hrec];cases g<;>simp)
         have main:alx Q sl .normal sl' lh' g->rangePost F n P (l) (QC B nb lh m w Q) { a with defers:=mark++a.defers } (.returned (sP [])) w':=fun hq=>by
          refine ⟨_,_,hendl,?_⟩
          cases g with
          | none =>
            obtain ⟨o,h1,rfl⟩:=hfin .normal hq
            rw [hrec]at h1 ⊢;exact h1
          | some x =>
            obtain ⟨o,h1,rfl⟩:=hfin x hq
            rw [hrec]at h1 ⊢
            cases x with
            |normal=>exact wpIn_skip h1
            |exit i=>exact wpIn_exit h1
            |ret=>exact wpIn_ret h1
         cases ex with
         |normal=>exact⟨hi.df,_,hres',main hq⟩
         |ret=>exact⟨hi.df,_,hres',main (by cases g<;>exact hq)⟩
         |exit i=>exact hq.elim
       ·cases hci
      ·exact hv.elim
     ·exact hv.elim
   ·cases hc
 |_=>intro F n nb B s sl lh m a w Q hF hr hc;cases hc
end
end Go.Sx
namespace Go.Sx
inductive Bs where
 |tmp (t:Nat)
 |cell (t:Nat) (n:Option Nat)
structure aK where
 ntmps:Nat
 res:List Bs
 body:fS
def ms (P:Program):List ResultVar->Option (List Bs)
 |[]=>some []
 |.tmp t::l=>(ms P l).map (.tmp t::·)
 | .cell a t::l=>match pD P t,ms P l with
   |some n,some l=>some (.cell a n::l)
   |_,_=>none
def dW (P:Program) (eqs:List TypeId) (its:List gH) (fn:Func):Option aK :=
 match fn.body with
 | some c=>match cN P eqs its c,ms P fn.results.toList with
   |some s,some r=>some ⟨fn.ntmps,r,s⟩
   |_,_=>none
 |none=>none
def iN (w0:World) (sl:List ak) (lh:List ao):List Bs->(List ak->Prop)->Prop
 |[],K=>K []
 |.tmp t::l,K=>iN w0 sl lh l fun vs=>K (sl.getD t .any::vs)
 | .cell t n::l,K=>match sl.getD t .any with
   | .ptr (some p)=>match n with
     |none=>∃ v,ld w0 lh p=some v/\iN w0 sl lh l fun vs=>K (v::vs)
     |some n=>∃ cs,lds w0 lh p n=some cs/\iN w0 sl lh l fun vs=>K (.agg cs::vs)
   |_=>False
def qy:List ak->ak
 |[v]=>v
 |vs=>.tup vs
def ard (w0:World) (res:List Bs) (K:ak->List ao->Prop):Ex->List ak->List ao->Prop
 |.normal,sl,lh=>iN w0 sl lh res fun vs=>K (qy vs) lh
 |.ret,sl,lh=>iN w0 sl lh res fun vs=>K (qy vs) lh
 |.exit _,_,_=>False
def IX (w0:World) (S:FuncId->bH) (f:aK) (args:List ak) (lh:List ao) (K:ak->List ao->Prop):Prop :=
 bY w0 S lh.length f.body (args++List.replicate (f.ntmps-args.length) .any) lh (ard w0 f.res K)
def Ret (nb:Nat) (K:ak->List ao->Prop) (r:ak) (lh:List ao):Prop:=∃ r1 lh1,Sub nb [r] lh [r1] lh1/\K r1 lh1
mutual
theorem Nl:∀ a:ak,ren id a=a
 |.int ..=>by simp only[ren]
 |.bool ..=>by simp only[ren]
 |.str ..=>by simp only[ren]
 |.ptr none=>by simp only[ren]
 |.ptr (some (.g _))=>by simp only[ren]
 |.ptr (some (.l k off))=>by simp only[ren,id]
 |.slice none _ _=>by simp only[ren]
 |.slice (some (.g _)) _ _=>by simp only[ren]
 |.slice (some (.l k off)) _ _=>by simp only[ren,id]
 |.fn f xs ys=>by simp only[ren];rw[qS xs,qS ys]
 |.agg cs=>by simp only[ren];rw[qS cs]
 |.tup cs=>by simp only[ren];rw[qS cs]
 |.raw _=>by simp only[ren]
 |.any=>by simp only[ren]
theorem qS:∀ l:List ak,wy id l=l
 |[]=>by simp only[wy]
 |a::l=>by simp only[wy];rw[Nl a,qS l]
end
mutual
theorem C6 {p q:Nat->Prop} (h:∀ k,p k->q k):∀ a:ak,kl p a->kl q a
 |.int ..,_=>by simp only[kl]
 |.bool ..,_=>by simp only[kl]
 |.str ..,_=>by simp only[kl]
 |.ptr none,_=>by simp only[kl]
 |.ptr (some (.g _)),_=>by simp only[kl]
 |.ptr (some (.l k off)),hp=>by simp only[kl]at *;exact h k hp
 |.slice none _ _,_=>by simp only[kl]
 |.slice (some (.g _)) _ _,_=>by simp only[kl]
 |.slice (some (.l k off)) _ _,hp=>by simp only[kl]at *;exact h k hp
 |.fn f xs ys,hp=>by simp only[kl]at *;exact⟨jM h xs hp.1,jM h ys hp.2⟩
 |.agg cs,hp=>by simp only[kl]at *;exact jM h cs hp
 |.tup cs,hp=>by simp only[kl]at *;exact jM h cs hp
 |.raw _,_=>by simp only[kl]
 |.any,_=>by simp only[kl]
theorem jM {p q:Nat->Prop} (h:∀ k,p k->q k):∀ l:List ak,iX p l->iX q l
 |[],_=>by simp only[iX]
 |a::l,hp=>by simp only[iX]at *;exact⟨C6 h a hp.1,jM h l hp.2⟩
end
theorem r8 {p:Nat->Prop}:∀ {l:List ak},iX p l->ln p id l l
 |[],_=>by simp only[ln]
 |a::l,h=>by simp only[iX]at h;simp only[ln];exact⟨.inr ⟨h.1,(Nl a).symm⟩,r8 h.2⟩
mutual
theorem FD {m:aF} {p:Nat->Prop} (h:∀ k b,m k=some b->p k):∀ (a:ak) (v:Value),vrel m a v->kl p a
 |.int ..,_,_=>by simp only[kl]
 |.bool ..,_,_=>by simp only[kl]
 |.str ..,_,_=>by simp only[kl]
 |.ptr none,_,_=>by simp only[kl]
 |.ptr (some (.g _)),_,_=>by simp only[kl]
 |.ptr (some (.l k off)),_,hv=>by simp only[vrel,dC]at hv;obtain⟨_,_,b,hb,_⟩:=hv;simp only[kl];exact h k b hb
 |.slice none _ _,_,_=>by simp only[kl]
 |.slice (some (.g _)) _ _,_,_=>by simp only[kl]
 |.slice (some (.l k off)) _ _,_,hv=>by simp only[vrel,dC]at hv;obtain⟨_,_,b,hb,_⟩:=hv;simp only[kl];exact h k b hb
 |.fn _ xs ys,_,hv=>by simp only[vrel]at hv;obtain⟨us,vs,_,h2,h3⟩:=hv;simp only[kl];exact⟨fB h xs _ h2,fB h ys _ h3⟩
 |.agg cs,_,hv=>by simp only[vrel]at hv;obtain⟨vs,_,h2⟩:=hv;simp only[kl];exact fB h cs _ h2
 |.tup cs,_,hv=>by simp only[vrel]at hv;obtain⟨vs,_,h2⟩:=hv;simp only[kl];exact fB h cs _ h2
 |.raw _,_,_=>by simp only[kl]
 |.any,_,_=>by simp only[kl]
theorem fB {m:aF} {p:Nat->Prop} (h:∀ k b,m k=some b->p k):∀ (l:List ak) (vs:List Value),ar m l vs->iX p l
 |[],_,_=>by simp only[iX]
 |a::l,_,hv=>by simp only[ar]at hv;obtain⟨u,us,_,h2,h3⟩:=hv;simp only[iX];exact⟨FD h a u h2,fB h l us h3⟩
end
def WF (lh:List ao):Prop:=∀ (k:Nat) (cs:List ak) (ty:TypeId),lh[k]? = some (.cells cs ty)->iX (fun j=>j<lh.length) cs
theorem a7.wf {B:cY} {m:aF} {lh:List ao} {w:World} (h:a7 B m lh w):WF lh:=fun k cs ty hk=>by
 obtain ⟨b,vs,_,hvs,_⟩:=h.loc k cs ty hk
 exact fB (fun j b hb=>Classical.byContradiction fun hn=>by rw[h.dom j (by omega)]at hb;cases hb) cs _ hvs
section
variable {P:Program} {S:FuncId->bH} {eqs:List TypeId}
theorem kQ {B:cY} {m:aF} {sl:List ak} {lh:List ao} {a:Act} {w:World} (hs:SR B m sl lh a w):∀ (rs:List ResultVar) (xs:List Bs) (K:List ak->Prop),ms P rs=some xs->iN B.w0 sl lh xs K ->
 ∃ ys vs,ar m ys vs/\K ys/\(rs.mapM (resV a.tmps)).run P w=.ok vs w
 |[],xs,K,hc,hv=>by simp only[ms,aaB]at hc;subst hc;exact⟨[],[],by simp[ar],hv,rfl⟩
 | .tmp t::rs,xs,K,hc,hv=>by
   simp only [ms,aaD]at hc
   obtain ⟨l,hl,rfl⟩:=hc
   simp only [iN]at hv
   obtain ⟨ys,vs,h1,h2,h3⟩:=kQ hs rs l _ hl hv
   refine ⟨_,a.tmps.getD t undef::vs,?_,h2,?_⟩
   ·simp only[ar];exact⟨_,_,rfl,by simpa using mz hs.1 t undef,h1⟩
   ·simp only[apJ];rw[ab (a:=a.tmps.getD t undef) (w':=w) rfl,ab h3];rfl
 | .cell b t::rs,xs,K,hc,hv=>by
   simp only [ms]at hc
   split at hc
   ·rename_i n l hn hl
    cases hc
    simp only [iN]at hv
    have hb:vrel m (sl.getD b .any) (a.tmps.getD b undef):=by simpa using mz hs.1 b undef
    split at hv
    ·rename_i p hp
     rw [hp]at hb
     obtain ⟨q,hq,hpq⟩:=iD hb
     obtain ⟨d,hd,hag⟩:=jO hn
     cases n with
     | none =>
       obtain ⟨x,hx,hv⟩:=hv
       obtain ⟨ad,v,rfl,hcell,hr⟩:=BS hs.2.2 hpq hx
       obtain ⟨ys,vs,h1,h2,h3⟩:=kQ hs rs l _ hl hv
       refine ⟨_,v::vs,by simp only[ar];exact⟨_,_,rfl,hr,h1⟩,h2,?_⟩
       rcases hag with ⟨_,k,hk,_⟩|⟨h4,_⟩
       ·cases hk
       ·simp only [apJ]
        rw [ab (a:=v) (w':=w) (by
         simp only [resV];rw[hq,ab (a:=ad) (w':=w) rfl];unfold loadVar;rw[ab (jL hd w),h4];exact wC hcell)]
        rw [ab h3];rfl
     | some n =>
       obtain ⟨x,hx,hv⟩:=hv
       obtain ⟨ad,us,rfl,hrun,hr⟩:=sr (P:=P) hs.2.2 hpq hx
       obtain ⟨ys,vs,h1,h2,h3⟩:=kQ hs rs l _ hl hv
       refine ⟨_,.agg us::vs,by simp only[ar];exact⟨_,_,rfl,by simp only[vrel];exact⟨_,rfl,hr⟩,h1⟩,h2,?_⟩
       rcases hag with ⟨h4,k,hk,h5⟩|⟨_,hk⟩
       ·cases hk
        simp only [apJ]
        rw [ab (a:=Value.agg us) (w':=w) (by
         simp only [resV];rw[hq,ab (a:=ad) (w':=w) rfl];unfold loadVar;rw[ab (jL hd w),h4];simp only[amW];rw[ab (run_sizeOf h5 w),ab hrun];rfl)]
        rw [ab h3];rfl
       ·cases hk
    ·exact hv.elim
   ·cases hc
theorem y7 {B:cY} {w:World} {D:Nat} {o:Obj}:∀ {ds:List Deferred},(∀ d'∈ds,d'.target≠.collected D)->jj B ds w->jj B ds (w.putObj D o)
 |[],_,_=>trivial
 |d::ds,hn,⟨D',h1,h2,h3,h4,h5⟩=>⟨D',h1,(World.putObj_heap_other (fun e=>by subst e;exact hn d ahE (by rw[h1]))).trans h2,h3,h4,y7 (fun d' hd=>hn d' (adx _ hd)) h5⟩
theorem oR {its : List gH} {f : FuncId} {fn : Func} {sf : aK} {Sp : bH} (hS : ∀ g, (S g).Ok P g) (hE : ∀ t ∈ eqs, cU P t) (hI : kG P eqs its) (hf : P.funcs[f]? = some fn) (hn : (fn.name == "runtime.NumGoroutine") = false) (hc : dW P eqs its fn = some sf)
 (h:∀ w0 args lh K,WF lh->iX (fun j=>j<lh.length) args->Sp w0 args lh K->IX w0 S sf args lh (Ret lh.length K)):Sp.Sound P f:=by
 intro B m lh w args vs K hrel hargs hsp
 have hv:=h B.w0 args lh K hrel.wf (fB (fun j b hb=>Classical.byContradiction fun hn=>by rw[hrel.dom j (by omega)]at hb;cases hb) args vs hargs) hsp
 unfold dW at hc
 split at hc
 ·rename_i c hb
  split at hc
  ·rename_i s rs hs hr
   cases hc
   refine ⟨⟨fn,hf,hn,by rw[hb];rfl⟩,?_⟩
   refine (callsIn_wide (n:=0)).1 (callsIn_of_wp_marks hf hb trivial (wpIn_mono (BB hS hE hI c Fence.wide 0 lh.length B s _ lh m _ w _ K6 (.inl rfl) hs ?_ hv) fun e a w' hq=>?_))
   ·refine⟨?_,trivial,hrel⟩
    simp only [aqL,Array.toList_replicate,List.size_toArray]
    rw [cv hargs]
    exact dF (by simpa using hargs) (fI _ _)
   ·obtain ⟨x,sl,lh',m',rfl,h1,h2,_,h3⟩:=hq
    have key:iN B.w0 sl lh' rs (fun vs=>Ret lh.length K (qy vs) lh')->∀ (ds:List Deferred) (w1:World),jj B ds w1->SR B m' sl lh' { a with defers:=[] } w1->LeavesInM Fence.wide 0 P fn a.tmps (fun e w'=>∃ v r m' lh',e=.returned v/\vrel m' r v/\hG lh m lh' m'/\a7 B m' lh' w'/\K r lh') ds .returning w1:=fun hv ds=>by
     induction ds with
     | nil =>
       intro w1 _ hs1
       obtain ⟨ys,us,g1,g2,g3⟩:=kQ hs1 fn.results.toList rs _ hr hv
       obtain ⟨r1,lh1,hsub,hK⟩:=g2
       have hone:vrel m' (qy ys) (sP us):=by
        match ys,g1 with
        |[],g1=>simp only[ar]at g1;subst g1;simp[qy,sP,vrel,ar]
        |[y],g1=>simp only[ar]at g1;obtain⟨u,us',rfl,g4,rfl⟩:=g1;exact g4
        | y::z::l,g1 =>
          have g1':=g1
          simp only [ar]at g1'
          obtain ⟨u,us1,rfl,_,u2,us2,rfl,_⟩:=g1'
          simp only [qy,sP,vrel]
          exact ⟨_,rfl,by simpa using g1⟩
       obtain ⟨m1,hs2,he1⟩:=hsub.rel (B:={ B with ds:=[] }) (a:=⟨#[sP us],[]⟩) (m:=m') (w:=w1) ⟨by simp only[ar];exact⟨_,_,rfl,hone,rfl⟩,rfl,hs1.2.2.withDs _⟩
       have hr1:=hs2.1
       simp only [ar]at hr1
       obtain ⟨u,us',e,g5,_⟩:=hr1
       simp at e
       exact ⟨_,tE g3,_,r1,m1,lh1,rfl,by rw[e.1];exact g5,D4 hrel (h2.trans he1),hs2.2.2.noDs,hK⟩
     | cons d ds ih =>
       intro w1 hm hs1
       obtain ⟨D,rfl,hD,hb,hd,hm'⟩:=hm
       refine ⟨by simp,.inl ⟨D,_,rfl,run_takeDeferred hD,ih _ ?_ ⟨hs1.1,trivial,hs1.2.2.putObj hD rfl hb.1 hb.2 _⟩⟩⟩
       refine y7 hd hm'
    cases x with
    |normal=>exact key h3 a.defers w' h1.2.1 ⟨h1.1,trivial,h1.2.2⟩
    |exit i=>exact h3.elim
    |ret=>exact key h3 a.defers w' h1.2.1 ⟨h1.1,trivial,h1.2.2⟩
  ·cases hc
 ·cases hc
end
end Go.Sx
namespace Go.Sx
def aeu:bH:=fun _ _ _ _=>False
section
variable {P:Program} {eqs:List TypeId}
theorem RL (f:FuncId):aeu.Ok P f:=⟨fun _ _ _ _ _ _ _ _ _ h=>h.elim,fun _ _ _ _ _ _ h=>h.elim,fun _ _ _ _ h=>h.elim⟩
end
theorem O2 {lh l:List ao} {K:ak->List ao->Prop} {r:ak} (h:kl (fun k=>k<lh.length) r) (hc:WF lh) (hK:K r lh):Ret lh.length K r (lh++l):=by
 refine ⟨r,lh,.inr ⟨id,fun _ _=>rfl,aaS _,fun k hk _=>(aaQ hk).symm,?_,fun k cs ty hk=>⟨cs,?_,?_⟩,fun _ _ _ _ h=>h⟩,hK⟩
 ·exact r8 (by simp only[iX];exact⟨C6 (fun k hk=>.inl hk) r h,trivial⟩)
 ·rw[id,aaQ (List.getElem?_eq_some_iff.1 hk).1];exact hk
 ·exact r8 (jM (fun k hk=>.inl hk) cs (hc k cs ty hk))
end Go.Sx
namespace Go.Dx
open Go.Sx
inductive V where
 |int (k:IntKind) (n:Int)
 |bool (b:Bool)
 |kb (b:Bool)
 |str (s:ByteArray)
 |agg (cs:List V)
 |tup (vs:List V)
 |fn (f:FuncId) (xs ys:List V)
 |sl (n:Nat) (f:Nat->List V)
 |pd (cs:List V)
 |pl (k off:Nat)
 |pe (k i j:Nat)
 |ss (k off n c:Nat)
 |gs (k n:Nat)
 |ns
 |np
 |any
 |gd (b:Bool) (v:V)
 |yl (l:Nat)
 |go (k off n:Nat)
 |sq (n m:Nat) (f:Nat->List V)
inductive O where
 |cells (cs:List V) (ty:TypeId)
 |gl (esz n:Nat) (f:Nat->List V) (ty:TypeId)
 |dead
 |hid
abbrev bD:=List (Nat×V)
abbrev aL:=Nat->List V
structure RD where
 ps:List Nat
 asg:fS
 body:fS
 e0:bD
 l:Nat
inductive Dw where
 |s (c:fS)
 |i (c:gW) (rd:RD)
inductive T (α:Type) where
 |ret (a:α)
 |br (b:Bool) (x y:T α)
 |ob (b:Bool) (x:T α)
 |obi (c d:Bool) (x:T α)
 |obp (p:Prop) (x:T α)
 |obq (a b:List V) (x:T α)
 |fail (why:Nat)
 |loop (fr:Nat×Nat) (body:Dw) (e:bD) (h:List O) (g:Option Ex) (k:Ex->bD->List O->Option Ex->T α)
 |all (f:Nat->T α)
 |und (x y:T α)
 |asm (p:Prop) (x:T α)
def iW:bD->Nat->V
 |[],_=>.any
 |(d,v)::e,i=>cond (Nat.beq i d) v (iW e i)
def fM {α:Type}:List α->Nat->Option α
 |[],_=>none
 |a::_,0=>some a
 |_::l,i+1=>fM l i
def zG {α:Type}:List α->Nat->α->List α
 |[],_,_=>[]
 |_::l,0,b=>b::l
 |a::l,i+1,b=>a::zG l i b
def Hf {α:Type}:List α->α->List α
 |[],b=>[b]
 |a::l,b=>a::Hf l b
def xl {α:Type}:List α->List α->List α
 |[],b=>b
 |a::l,b=>a::xl l b
def bI {α:Type}:List α->Nat
 |[]=>0
 |_::l=>bI l+1
def rA {α:Type}:Nat->List α->Option (List α)
 |0,l=>some l
 |_+1,[]=>none
 |n+1,_::l=>rA n l
def wZ {α:Type}:Nat->List α->Option (List α)
 |0,_=>some []
 |_+1,[]=>none
 | n+1,a::l=>match wZ n l with
   |some r=>some (a::r)
   |none=>none
def Fv {α:Type} (l:List α) (off n:Nat):Option (List α) :=
 match rA off l with
 |some r=>wZ n r
 |none=>none
def qv {α:Type}:List α->Nat->List α->Option (List α)
 |cs,0,[]=>some cs
 |[],0,_::_=>none
 | _::cs,0,x::xs=>match qv cs 0 xs with
   |some r=>some (x::r)
   |none=>none
 |[],_+1,_=>none
 | c::cs,off+1,xs=>match qv cs off xs with
   |some r=>some (c::r)
   |none=>none
def H3:ak->V
 |.int k n=>.int k n
 |.bool b=>.kb b
 |.str s=>.str s
 |.ptr none=>.np
 |.slice none 0 0=>.ns
 |.fn (.func f) [] []=>.fn f [] []
 |_=>.any
def dj (e:bD):fi->V
 |.t i=>iW e i
 |.k a=>H3 a
def V.one:V->Bool
 |.agg _|.tup _|.any|.gd ..|.yl _=>false
 |_=>true
def V.fc:V->Bool
 |.agg _|.tup _|.fn ..|.gd ..|.yl _=>false
 |_=>true
def V.cells:V->List V
 |.agg cs=>cs
 |v=>[v]
def V.flat:V->Bool
 |.agg cs=>cs.all V.one
 |v=>v.one
section
variable {α:Type}
def gV (ctx:Bool) (v:V) (K:V->T α):T α :=
 match v with
 |.gd b v=>.obi ctx b (K v)
 |v=>K v
def ub (ctx:Bool) (e:bD):List fi->(List V->T α)->T α
 |[],K=>K []
 |x::xs,K=>gV ctx (dj e x) fun v=>ub ctx e xs fun vs=>K (v::vs)
def tZ (ctx:Bool) (e:bD):Option fi->(Option V->T α)->T α
 |none,K=>K none
 |some x,K=>gV ctx (dj e x) fun v=>K (some v)
def xK (ctx:Bool) (p:Prop) [Decidable p] (x:T α):T α:=.obi ctx (decide p) x
def fp (pl:Option Nat) (h:List O) (o:O) (K:Nat->List O->T α):T α :=
 match pl with
 |none=>K (bI h) (Hf h o)
 | some p=>match fM h p with
   |some .dead=>K p (zG h p o)
   |_=>.fail 1
def qg (ctx:Bool) (e:bD):List (Nat×Nat×fi)->List V->(List V->T α)->T α
 |[],z,K=>K z
 | (off,n,x)::ps,z,K=>gV ctx (dj e x) fun v =>
   cond (v.flat&&Nat.beq (bI v.cells) n) (match qv z off v.cells with
    |some z=>qg ctx e ps z K
    |none=>.fail 2) (.fail 3)
def Ss (ctx:Bool) (op:BinOp) (k:IntKind) (a b:Int) (K:V->T α):T α :=
 match op with
 |.add=>K (.int k (k.wrap (a+b)))
 |.sub=>K (.int k (k.wrap (a-b)))
 |.mul=>K (.int k (k.wrap (a*b)))
 |.quo=>xK ctx (b≠0) (K (.int k (k.wrap (a.tdiv b))))
 |.rem=>xK ctx (b≠0) (K (.int k (a.tmod b)))
 |.eql=>K (.bool (a==b))
 |.neq=>K (.bool (a != b))
 |.lss=>K (.bool (decide (a<b)))
 |.leq=>K (.bool (decide (a<=b)))
 |.gtr=>K (.bool (decide (b<a)))
 |.geq=>K (.bool (decide (b<=a)))
 |.and=>K (.int k (bits .and k a b))
 |.or=>K (.int k (bits .or k a b))
 |.xor=>K (.int k (bits .xor k a b))
 |.shl=>xK ctx (0<=b) (K (.int k (k.wrap (a*2 ^ min b.toNat k.bits))))
 |.shr=>xK ctx (0<=b) (K (.int k (a.fdiv (2 ^ min b.toNat k.bits))))
 |_=>.fail 4
def B4 (ctx:Bool) (op:BinOp) (x y:V) (K:V->T α):T α :=
 match x,y with
 | .int k a,.int k' b=>match decEq k k' with
   |.isTrue _=>Ss ctx op k a b K
   |.isFalse _=>.fail 5
 | .str a,.str b=>match op with
   |.eql=>K (.bool (a.toList==b.toList))
   |.neq=>K (.bool !(a.toList==b.toList))
   |.add=>xK ctx (((a.size+b.size:Nat):Int)<=IntKind.i64.max) (K (.str (a++b)))
   |_=>.fail 6
 |_,_=>.fail 7
def nu:V->Option Bool
 |.bool b=>some b
 |.kb b=>some b
 |_=>none
mutual
def mrg (c:Bool):V->V->Option V
 | .int k a,.int k' b=>match decEq k k' with
   |.isTrue _=>some (.int k (cond c a b))
   |.isFalse _=>none
 | .bool a,y=>match nu y with
   |some b=>some (.bool (cond c a b))
   |none=>none
 | .kb a,y=>match nu y with
   |some b=>some (.bool (cond c a b))
   |none=>none
 |.str a,.str b=>some (.str (cond c a b))
 | .agg xs,.agg ys=>match KJ c xs ys with
   |some zs=>some (.agg zs)
   |none=>none
 |_,_=>none
def KJ (c:Bool):List V->List V->Option (List V)
 |[],[]=>some []
 | x :: xs,y::ys=>match mrg c x y with
   | some z=>match KJ c xs ys with
     |some zs=>some (z::zs)
     |none=>none
   |none=>none
 |_,_=>none
end
def Ek:List V->List V->Option Bool
 |[],[]=>some true
 | .int k a::xs,.int k' b::ys=>match decEq k k' with
   | .isTrue _=>match Ek xs ys with
     |some r=>some (a==b&&r)
     |none=>none
   |.isFalse _=>none
 |_,_=>none
def mmV (isMax:Bool):V->List V->Option V
 |x,[]=>some x
 | .int k a,.int k' b::xs=>match decEq k k' with
   |.isTrue _=>mmV isMax (.int k (if isMax then max a b else min a b)) xs
   |.isFalse _=>none
 |_,_=>none
def mj (ctx:Bool) (x:Option V) (y d:Nat) (K:Nat->T α):T α :=
 match x with
 |none=>K d
 |some (.int _ i)=>xK ctx (0<=i/\i<=y) (K i.toNat)
 |_=>.fail 8
def Xa (m l a b:Nat):Nat:=cond (Nat.beq m l) a b
def lX (esz:Nat) (l:List V):Bool:=Nat.beq (bI l) esz&&l.all V.one
def en:Nat->(Nat->Bool)->Bool
 |0,_=>true
 |n+1,p=>en n p&&p n
def EZ (h:List O) (esz:Nat):V->Option (Nat×(Nat->List V)×Bool)
 |.ns=>some (0,fun _=>[],true)
 |.sl n f=>some (n,f,en n fun i=>lX esz (f i))
 | .gs k n=>match fM h k with
   |some (.gl e n' f _)=>cond (Nat.beq e esz) (some (n,f,Nat.ble n n')) none
   |_=>none
 | .ss k off n _=>match fM h k with
   | some (.cells cs _)=>match Fv cs off (n*esz) with
     | some ds=>cond (ds.all V.one) (match n with
       |1=>some (1,fun _=>ds,true)
       |n=>some (n,fun i=>(ds.drop (i*esz)).take esz,true)) none
     |none=>none
   |_=>none
 | .go k off n=>match fM h k with
   |some (.gl e n' f _)=>cond (Nat.beq e esz) (some (n,fun i=>f (off+i),Nat.ble (off+n) n')) none
   |_=>none
 |_=>none
def bh (n:Nat) (f g:aL) (i:Nat):List V:=cond (Nat.blt i n) (f i) (g (i-n))
abbrev CF (α:Type):=FuncId->List V->List O->(V->List O->T α)->T α
def afv (pl:Option Nat) (h:List O) (ty:TypeId) (esz bytes:Nat) (s x:V) (K:V->List O->T α):T α :=
 match EZ h esz x with
 |none=>.fail 10
 | some (m,g,q)=>.ob q (match s with
   |.ns=>.ob (decide (m*bytes<=140737488355328)&&!Nat.beq bytes 0) (fp pl h (.gl esz m g ty) fun p h=>K (.gs p m) h)
   | .gs k n=>match fM h k with
     | some (.gl e n' f ty')=>cond (Nat.beq e esz&&Nat.beq ty ty') (.ob (decide (n<=n'/\(n+m)*bytes<=140737488355328)&&!Nat.beq bytes 0)
        (fp pl (zG h k .hid) (.gl esz (n+m) (bh n f g) ty) fun p h=>K (.gs p (n+m)) h)) (.fail 11)
     |_=>.fail 12
   | .ss k off n c=>match EZ h esz (.ss k off n c) with
     | some (_,f,_)=>match n,c with
       | 0,0=>match fM h k with
         |some (.cells [] ty')=>cond (Nat.beq ty ty'&&Nat.beq off 0) (.ob (decide (m*bytes<=140737488355328)&&!Nat.beq bytes 0) (fp pl (zG h k .hid) (.gl esz m g ty) fun p h=>K (.gs p m) h)) (.fail 15)
         |_=>.fail 16
       | _,_=>match x with
         |.go _ _ _=>.br (Nat.beq m 0) (.ob (Nat.ble n c) (K (.ss k off n c) h)) (.ob (decide (c<n+m/\(n+m)*bytes<=140737488355328)&&!Nat.beq bytes 0) (fp pl h (.gl esz (n+m) (bh n f g) ty) fun p h=>K (.gs p (n+m)) h))
         |_=>.ob (decide (c<n+m/\(n+m)*bytes<=140737488355328)&&!Nat.beq bytes 0) (fp pl h (.gl esz (n+m) (bh n f g) ty) fun p h=>K (.gs p (n+m)) h)
     |none=>.fail 13
   |_=>.fail 14)
def ldV (h:List O):V->Option V
 | .pl k off=>match fM h k with
   |some (.cells cs _)=>fM cs off
   |_=>none
 | .pe k i j=>match fM h k with
   |some (.gl _ _ f _)=>fM (f i) j
   |_=>none
 |.pd cs=>fM cs 0
 |_=>none
def Wv (h:List O) (n:Nat):V->Option (List V)
 | .pl k off=>match fM h k with
   |some (.cells cs _)=>Fv cs off n
   |_=>none
 | .pe k i j=>match fM h k with
   |some (.gl _ _ f _)=>Fv (f i) j n
   |_=>none
 |.pd cs=>wZ n cs
 |_=>none
def KF (l:List V) (i:Nat):V:=match fM l i with
 |some v=>v
 |none=>.any
def Zb (cs:List V) (j:Nat) (xs:List V):Nat->Nat->List V
 |_,0=>[]
 |t,m+1=>cond (Nat.ble j t&&Nat.blt t (j+bI xs)) (KF xs (t-j)) (KF cs t)::Zb cs j xs (t+1) m
def wrE (e:Nat) (cs:List V) (j:Nat) (xs:List V):Option (List V):=cond (Nat.ble (j+bI xs) e) (some (Zb cs j xs 0 e)) none
def Xq (e:Nat) (f:aL) (i j:Nat) (xs:List V):Nat->List V:=fun i'=>cond (Nat.beq i' i) (Zb (f i) j xs 0 e) (f i')
def Ym (h:List O) (xs:List V):V->Option (List O)
 | .pl k off=>match fM h k with
   | some (.cells cs ty)=>match qv cs off xs with
     |some cs=>some (zG h k (.cells cs ty))
     |none=>none
   |_=>none
 | .pe k i j=>match fM h k with
   |some (.gl e n f ty)=>cond (Nat.ble (j+bI xs) e) (some (zG h k (.gl e n (Xq e f i j xs) ty))) none
   |_=>none
 |_=>none
def Nk:Nat->List V
 |0=>[]
 |n+1=>.int .i64 0::Nk n
def XP (ctx:Bool) (h:List O) (v:V) (x:T α):T α :=
 match v with
 | .pe k i _=>match fM h k with
   |some (.gl _ n _ _)=>xK ctx (i<n) x
   |_=>.fail 17
 |_=>x
def Bq (cf:CF α) (ctx:Bool) (pl:Option Nat) (op:kj) (e:bD) (h:List O) (K:V->List O->T α):T α :=
 match op with
 |.mov x=>gV ctx (dj e x) fun v=>K v h
 | .pick c a b=>gV ctx (dj e c) fun c=>match c with
   |.kb true=>gV ctx (dj e a) fun v=>K v h
   |.kb false=>gV ctx (dj e b) fun v=>K v h
   | .bool c=>gV (ctx&&c) (dj e a) fun x=>gV (ctx&&!c) (dj e b) fun y=>match mrg c x y with
     |some v=>K v h
     |none=>.br c (K x h) (K y h)
   |.tup _=>.obi ctx false (K .any h)
   |_=>.fail 20
 |.new ty z=>fp pl h (.cells (z.map H3) ty) fun p h=>K (.pl p 0) h
 |.box ty x=>gV ctx (dj e x) fun v=>cond v.flat (fp pl h (.cells v.cells ty) fun p h=>K (.pl p 0) h) (.fail 21)
 |.agg z ps=>qg ctx e ps (z.map H3) fun cs=>K (.agg cs) h
 |.bsl ty n z ps=>qg ctx e ps (z.map H3) fun cs=>fp pl h (.cells cs ty) fun p h=>K (.ss p 0 n n) h
 | .ld a=>gV ctx (dj e a) fun a=>XP ctx h a (match ldV h a with
   |some v=>K v h
   |none=>.fail 22)
 | .lds n a=>gV ctx (dj e a) fun a=>XP ctx h a (match Wv h n a with
   |some cs=>K (.agg cs) h
   |none=>.fail 23)
 | .st n a x=>gV ctx (dj e a) fun a=>gV ctx (dj e x) fun v=>XP ctx h a (cond (v.flat&&Nat.beq (bI v.cells) n) (match Ym h v.cells a with
    |some h=>K (.tup []) h
    |none=>.fail 24) (.fail 25))
 | .nz x=>gV ctx (dj e x) fun v=>match v with
   |.pl k o=>K (.pl k o) h
   |.pe k i j=>K (.pe k i j) h
   |.pd cs=>K (.pd cs) h
   |.fn f a b=>K (.fn f a b) h
   |_=>.fail 26
 |.bin op x y=>gV ctx (dj e x) fun x=>gV ctx (dj e y) fun y=>B4 ctx op x y fun v=>K v h
 | .eqa neg n x y=>gV ctx (dj e x) fun x=>gV ctx (dj e y) fun y=>match x,y with
   | .agg xs,.agg ys=>match Ek xs ys with
     |some b=>cond (Nat.beq (bI xs) n) (K (.bool (if neg then !b else b)) h) (.fail 27)
     |none=>.fail 28
   |_,_=>.fail 29
 | .eqb neg x y=>gV ctx (dj e x) fun x=>gV ctx (dj e y) fun y=>match nu x,nu y with
   |some a,some b=>K (.bool (if neg then !(a==b) else a==b)) h
   |_,_=>.fail 30
 | .un op x=>gV ctx (dj e x) fun x=>match op,x with
   |.neg,.int k n=>K (.int k (k.wrap (0-n))) h
   |.not,.bool b=>K (.bool !b) h
   |.not,.kb b=>K (.kb !b) h
   |_,_=>.fail 31
 | .conv k x=>gV ctx (dj e x) fun x=>match x with
   |.int _ n=>K (.int k (k.wrap n)) h
   |_=>.fail 32
 | .mkf f xs ys=>match f with
   |.func f=>ub ctx e xs fun us=>ub ctx e ys fun vs=>K (.fn f us vs) h
   |_=>.fail 33
 | .fa off x=>gV ctx (dj e x) fun x=>match x with
   |.pl k o=>K (.pl k (o+off)) h
   |.pe k i j=>K (.pe k i (j+off)) h
   | .pd cs=>match rA off cs with
     |some cs=>K (.pd cs) h
     |none=>.fail 34
   |_=>.fail 35
 | .fld off n x=>gV ctx (dj e x) fun x=>match x with
   | .agg cs=>match n with
     | some n=>match Fv cs off n with
       |some ds=>K (.agg ds) h
       |none=>.fail 36
     | none=>match fM cs off with
       |some v=>K v h
       |none=>.fail 37
   |_=>.fail 38
 | .iaA n esz x ix=>gV ctx (dj e x) fun x=>gV ctx (dj e ix) fun ix=>match x,ix with
   |.pl k o,.int _ i=>xK ctx (0<=i/\i<n) (K (.pl k (o+i.toNat*esz)) h)
   |.pe k j o,.int _ i=>xK ctx (0<=i/\i<n) (K (.pe k j (o+i.toNat*esz)) h)
   | .pd cs,.int _ i=>match rA (i.toNat*esz) cs with
     |some cs=>xK ctx (0<=i/\i<n) (K (.pd cs) h)
     |none=>.fail 39
   |_,_=>.fail 40
 | .iaS esz x ix=>gV ctx (dj e x) fun x=>gV ctx (dj e ix) fun ix=>match x,ix with
   |.sl n f,.int _ i=>cond (Nat.beq (bI (f i.toNat)) esz) (xK ctx (0<=i/\i<n) (K (.pd (f i.toNat)) h)) (.fail 41)
   |.ss k o n _,.int _ i=>xK ctx (0<=i/\i<n) (K (.pl k (o+i.toNat*esz)) h)
   | .gs k n,.int _ i=>match fM h k with
     |some (.gl e n' _ _)=>cond (Nat.beq e esz) (xK ctx (0<=i/\i<n/\n<=n') (K (.pe k i.toNat 0) h)) (.fail 42)
     |_=>.fail 43
   | .go k off n,.int _ i=>match fM h k with
     |some (.gl e n' _ _)=>cond (Nat.beq e esz) (xK ctx (0<=i/\i<n/\off+n<=n') (K (.pe k (off+i.toNat) 0) h)) (.fail 42)
     |_=>.fail 43
   |.ns,.int _ i=>xK ctx (0<=i/\i<(0:Int)) (K (.pd (Nk esz)) h)
   |_,_=>.fail 44
 | .ixA n esz sz x ix=>gV ctx (dj e x) fun x=>gV ctx (dj e ix) fun ix=>match x,ix with
   | .agg cs,.int _ i=>match sz with
     | some sz=>match Fv cs (i.toNat*esz) sz with
       |some ds=>xK ctx (0<=i/\i<n) (K (.agg ds) h)
       |none=>.fail 45
     | none=>match fM cs (i.toNat*esz) with
       |some v=>xK ctx (0<=i/\i<n) (K v h)
       |none=>.fail 46
   |_,_=>.fail 47
 | .ixS x ix=>gV ctx (dj e x) fun x=>gV ctx (dj e ix) fun ix=>match x,ix with
   |.str s,.int _ i=>xK ctx (0<=i/\i<s.size) (K (.int .u8 ((s.data.toList.getD i.toNat 0).toNat:Int)) h)
   |_,_=>.fail 48
 | .len x=>gV ctx (dj e x) fun x=>match x with
   |.sl n _=>.asm (ctx=true->n<=9223372036854775807) (K (.int .i64 n) h)
   |.ss _ _ n _=>K (.int .i64 n) h
   |.gs _ n=>K (.int .i64 n) h
   |.ns=>K (.int .i64 0) h
   |.go _ _ n=>K (.int .i64 n) h
   |_=>.fail 49
 | .lenT x=>gV ctx (dj e x) fun x=>match x with
   |.str s=>K (.int .i64 s.size) h
   |_=>.fail 50
 |.lenA n=>K (.int .i64 n) h
 | .mm b x xs=>gV ctx (dj e x) fun x=>ub ctx e xs fun xs=>match mmV b x xs with
   |some v=>K v h
   |none=>.fail 51
 | .ext x i=>gV ctx (dj e x) fun x=>match x with
   | .tup vs=>match fM vs i with
     |some v=>K v h
     |none=>.fail 52
   |_=>.fail 53
 | .slS esz x lo hi mx=>gV ctx (dj e x) fun x=>tZ ctx e lo fun lo=>tZ ctx e hi fun hi=>tZ ctx e mx fun mx=>match x with
   | .sl n f=>match mx with
     |none=>cond (Nat.beq (bI (f 0)) esz) (mj ctx hi n n fun b=>mj ctx lo b 0 fun a=>K (.sl (b-a) (fun i=>f (a+i))) h) (.fail 19)
     |some _=>.fail 54
   | .gs k n=>match mx,lo with
     |none,none=>mj ctx hi n n fun b=>K (.gs k b) h
     | none,some lo=>match fM h k with
       |some (.gl e _ _ _)=>cond (Nat.beq e esz) (mj ctx hi n n fun b=>mj ctx (some lo) b 0 fun a=>K (.go k a (b-a)) h) (.fail 104)
       |_=>.fail 105
     |_,_=>.fail 55
   |.ss k o n c=>mj ctx mx c c fun m=>mj ctx hi m n fun b=>mj ctx lo b 0 fun a=>K (.ss k (Xa m a o (o+a*esz)) (b-a) (m-a)) h
   | .ns=>match mx with
     |none=>mj ctx hi 0 0 fun b=>mj ctx lo b 0 fun _=>K .ns h
     |some _=>.fail 56
   |_=>.fail 57
 | .slA n esz x lo hi mx=>gV ctx (dj e x) fun x=>tZ ctx e lo fun lo=>tZ ctx e hi fun hi=>tZ ctx e mx fun mx=>match x with
   |.pl k o=>mj ctx mx n n fun m=>mj ctx hi m n fun b=>mj ctx lo b 0 fun a=>K (.ss k (Xa m a o (o+a*esz)) (b-a) (m-a)) h
   |_=>.fail 58
 | .slT x lo hi=>gV ctx (dj e x) fun x=>tZ ctx e lo fun lo=>tZ ctx e hi fun hi=>match x with
   |.str s=>mj ctx hi s.size s.size fun b=>mj ctx lo b 0 fun a=>K (.str (s.extract a b)) h
   |_=>.fail 59
 |.app ty esz bytes z s x=>gV ctx (dj e s) fun s=>gV ctx (dj e x) fun x=>cond (Nat.beq (bI z) esz) (afv pl h ty esz bytes s x K) (.fail 18)
 |.mks ty n cs=>fp pl h (.cells (cs.map H3) ty) fun p h=>K (.ss p 0 n n) h
 |.call f xs=>ub ctx e xs fun vs=>cf f vs h K
 | .callv x xs=>gV ctx (dj e x) fun x=>ub ctx e xs fun vs=>match x with
   |.fn f a b=>cf f (xl (xl a vs) b) h K
   |_=>.fail 60
 | .isn neg x=>gV ctx (dj e x) fun x=>match x with
   |.ns=>K (.kb (!neg)) h
   |.ss ..=>K (.kb neg) h
   |.sl n _=>.und (.asm (n=0) (K (.kb (!neg)) h)) (K (.kb neg) h)
   |.gs _ n=>.und (.asm (n=0) (K (.kb (!neg)) h)) (K (.kb neg) h)
   |_=>.fail 100
 | .clr esz z x=>gV ctx (dj e x) fun x=>match x with
   | .go k off n=>match fM h k with
     |some (.gl e n' f ty)=>cond (Nat.beq e esz&&lX e (z.map H3)) (.ob (decide (0<n/\off+n<=n')) (K (.tup []) (zG h k (.gl e n' (fun i=>cond (Nat.ble off i&&Nat.blt i (off+n)) (z.map H3) (f i)) ty)))) (.fail 101)
     |_=>.fail 102
   |_=>.fail 103
def kD:kj->Bool
 |.new ..|.box ..|.bsl ..|.st ..|.app ..|.mks ..|.call ..|.callv ..|.clr ..=>false
 |_=>true
def dQ (e:bD) (d:Option Nat) (v:V):bD :=
 match d with
 |some d=>(d,v)::e
 |none=>e
def gB (b want:Bool):Bool:=match want with
 |true=>b
 |false=>!b
def fR (cf : CF α):List gS->bD->List O->(bD->List O->T α)->T α
 |[],e,h,K=>K e h
 | o :: rest,e,h,K =>
   match o.guard with
   |none=>Bq cf true none o.op e h fun v h=>fR cf rest (dQ e o.dst v) h K
   | some (d,want) =>
     match iW e d with
     | .kb b=>match decEq b want with
       |.isTrue _=>Bq cf true none o.op e h fun v h=>fR cf rest (dQ e o.dst v) h K
       |.isFalse _=>fR cf rest (dQ e o.dst (.tup [])) h K
     |.tup _=>fR cf rest (dQ e o.dst (.tup [])) h K
     |.int ..=>fR cf rest (dQ e o.dst (.tup [])) h K
     | .bool b=>match kD o.op with
       |true=>Bq cf (gB b want) none o.op e h fun v _=>fR cf rest (dQ e o.dst (.gd (gB b want) v)) h K
       | false=>.br (gB b want) (Bq cf true none o.op ((d,.kb want)::e) h fun v h=>fR cf rest (dQ ((d,.kb want)::e) o.dst v) h K)
          (fR cf rest (dQ ((d,.kb (!want))::e) o.dst (.tup [])) h K)
     | .gd c v=>match nu v with
       | none=>match v with
         |.tup _=>fR cf rest (dQ e o.dst (.tup [])) h K
         |_=>.fail 62
       | some b=>match kD o.op with
         |true=>Bq cf (c&&gB b want) none o.op e h fun v _=>fR cf rest (dQ e o.dst (.gd (c&&gB b want) v)) h K
         | false=>.br (c&&gB b want) (Bq cf true none o.op ((d,.kb want)::e) h fun v h=>fR cf rest (dQ ((d,.kb want)::e) o.dst v) h K)
            (fR cf rest (dQ e o.dst (.tup [])) h K)
     |_=>.fail 61
end
def xm (k:Nat):List Nat->Bool
 |[]=>false
 |x::l=>cond (Nat.beq k x) true (xm k l)
def F9:List Nat->List Nat->Bool
 |[],_=>true
 |k::l,W=>xm k W&&F9 l W
def LM:List Nat->List Nat->Bool
 |[],_=>true
 |k::l,W=>!xm k W&&LM l W
def d9 (h:List O) (k:Nat):Bool :=
 match fM h k with
 |some (.cells ..)=>true
 |some (.gl ..)=>true
 |_=>false
def jn (h:List O):V->Option (List Nat)
 |.pl k _=>cond (d9 h k) (some [k]) none
 |.pe k _ _=>cond (d9 h k) (some [k]) none
 |.ss k _ _ _=>cond (d9 h k) (some [k]) none
 |.gs k _=>cond (d9 h k) (some [k]) none
 |.ns=>some []
 |_=>none
def H6 (h:List O) (e:bD) (n0:Nat):Da->Option (List Nat)
 |.fresh r=>some [n0+r]
 |.slot s=>jn h (iW e s)
 | .load s off=>match iW e s with
   | .pl k o=>match ldV h (.pl k (o+off)) with
     |some v=>jn h v
     |none=>none
   |_=>none
def sX (h:List O) (e:bD) (n0:Nat):List Da->Option (List Nat)
 |[]=>some []
 | x::l=>match H6 h e n0 x,sX h e n0 l with
   |some a,some b=>some (xl a b)
   |_,_=>none
def ta (h:List O) (e:bD) (n0:Nat):List gQ->Option (List (List Nat))
 |[]=>some []
 | d::l=>match sX h e n0 d.ws,ta h e n0 l with
   |some a,some b=>some (a::b)
   |_,_=>none
def dp (Ws:List (List Nat)) (i:Nat):List Nat:=match fM Ws i with
 |some l=>l
 |none=>[]
def m9 (Ws:List (List Nat)):List Nat->List Nat
 |[]=>[]
 |u::un=>xl (dp Ws u) (m9 Ws un)
def tc (Ws:List (List Nat)):List gQ->Nat->Bool
 |[],_=>true
 |d::l,i=>LM (dp Ws i) (m9 Ws d.un)&&tc Ws l (i+1)
def iU (X:List Nat):List O->Nat->List O
 |[],_=>[]
 |o::h,k=>cond (xm k X) O.hid o::iU X h (k+1)
def jh (X:List Nat) (h:List O):List O:=match X with
 |[]=>h
 |_=>iU X h 0
def kP (W:List Nat) (l:List O):List O->Nat->List O
 |[],_=>[]
 | o::h,k=>cond (xm k W) (match fM l k with
   |some o'=>o'
   |none=>o) o::kP W l h (k+1)
def Gq (W:List Nat) (h l:List O):List O:=kP W l h 0
def wj (Ws:List (List Nat)) (Y:List Nat):List gQ->Nat->Nat->Bool
 |[],_,_=>true
 | d::l,i,j=>cond (Nat.blt i j) ((match d.rk with
   |none=>true
   |some _=>LM (dp Ws i) Y||F9 (dp Ws i) Y)&&wj Ws Y l (i+1) j) true
def yo (Ws:List (List Nat)) (all:List gQ):List gQ->Nat->Bool
 |[],_=>true
 |d::l,j=>(wj Ws (dp Ws j) all 0 j&&wj Ws (m9 Ws d.un) all 0 j)&&yo Ws all l (j+1)
def undead:List O->List O
 |[]=>[]
 | o::h=>(match o with
   |.dead=>.hid
   |o=>o)::undead h
def deads:Nat->List O
 |0=>[]
 |n+1=>.dead::deads n
def opW (h:List O) (e:bD) (pl:Option Nat):kj->Option (List Nat)
 |.st _ a _=>jn h (dj e a)
 | .app _ _ _ _ s _=>match jn h (dj e s),pl with
   |some l,some p=>some (p::l)
   |_,_=>none
 | .new ..|.box ..|.bsl ..|.mks ..=>match pl with
   |some p=>some [p]
   |none=>none
 |.call ..|.callv ..=>some []
 |.clr ..=>none
 |_=>some []
def plL (pl:Option Nat) (l:List Nat):List Nat:=match pl with
 |some p=>p::l
 |none=>l
section
variable {α:Type}
abbrev CP (α:Type):=Bool->FuncId->List V->List O->(V->T α)->T α
def evM (cp:CP α) (Ws:List (List Nat)) (n0:Nat) (d:gQ) (i:Nat) (e:bD) (h:List O) (K:V->List O->T α):T α :=
 match kD d.o.op with
 |true=>Bq (fun f vs h K=>cp false f vs h fun v=>K v h) true none d.o.op e (jh (m9 Ws d.un) h) fun v _=>K v h
 | false=>match opW (jh (m9 Ws d.un) h) e (d.rk.map (n0+·)) d.o.op with
   |none=>.fail 63
   |some l=>cond (F9 (plL (d.rk.map (n0+·)) l) (dp Ws i)) (Bq (fun f vs h K=>cp false f vs h fun v=>K v h) true (d.rk.map (n0+·)) d.o.op e (jh (m9 Ws d.un) h) fun v l=>K v (Gq (dp Ws i) h l)) (.fail 64)
def eP (cp : CP α) (Ws:List (List Nat)) (n0:Nat):List gQ->Nat->bD->List O->(bD->List O->T α)->T α
 |[],_,e,h,K=>K e h
 | d :: rest,i,e,h,K =>
   match d.o.guard with
   |none=>evM cp Ws n0 d i e h fun v h=>eP cp Ws n0 rest (i+1) (dQ e d.o.dst v) h K
   | some (g,want) =>
     match iW e g with
     | .kb b=>match decEq b want with
       |.isTrue _=>evM cp Ws n0 d i e h fun v h=>eP cp Ws n0 rest (i+1) (dQ e d.o.dst v) h K
       |.isFalse _=>eP cp Ws n0 rest (i+1) (dQ e d.o.dst (.tup [])) h K
     |.tup _=>eP cp Ws n0 rest (i+1) (dQ e d.o.dst (.tup [])) h K
     |.int ..=>eP cp Ws n0 rest (i+1) (dQ e d.o.dst (.tup [])) h K
     | .bool b=>match kD d.o.op with
       |true=>Bq (fun f vs h K=>cp false f vs h fun v=>K v h) (gB b want) none d.o.op e (jh (m9 Ws d.un) h) fun v _=>eP cp Ws n0 rest (i+1) (dQ e d.o.dst (.gd (gB b want) v)) h K
       | false=>.br (gB b want) (evM cp Ws n0 d i ((g,.kb want)::e) h fun v h=>eP cp Ws n0 rest (i+1) (dQ ((g,.kb want)::e) d.o.dst v) h K)
          (eP cp Ws n0 rest (i+1) (dQ ((g,.kb (!want))::e) d.o.dst (.tup [])) h K)
     | .gd c v=>match nu v with
       | none=>match v with
         |.tup _=>eP cp Ws n0 rest (i+1) (dQ e d.o.dst (.tup [])) h K
         |_=>.fail 65
       | some b=>match kD d.o.op with
         |true=>Bq (fun f vs h K=>cp false f vs h fun v=>K v h) (c&&gB b want) none d.o.op e (jh (m9 Ws d.un) h) fun v _=>eP cp Ws n0 rest (i+1) (dQ e d.o.dst (.gd (c&&gB b want) v)) h K
         | false=>.br (c&&gB b want) (evM cp Ws n0 d i ((g,.kb want)::e) h fun v h=>eP cp Ws n0 rest (i+1) (dQ ((g,.kb want)::e) d.o.dst v) h K)
            (eP cp Ws n0 rest (i+1) (dQ e d.o.dst (.tup [])) h K)
     |_=>.fail 66
def vj (cp:CP α) (ds:List gQ) (e:bD) (h:List O) (K:bD->List O->T α):T α :=
 match ta (undead h) e (bI h) ds with
 |none=>.fail 67
 |some Ws=>cond (tc Ws ds 0&&yo Ws ds ds 0) (eP cp Ws (bI h) ds 0 e (xl (undead h) (deads (Rx ds))) K) (.fail 68)
def evL (ev:bD->List O->(Ex->bD->List O->T α)->T α):Nat->bD->List O->(Ex->bD->List O->T α)->T α
 |0,_,_,_=>.fail 90
 | n+1,e,h,K=>ev e h fun x e h=>match x with
   |.normal=>evL ev n e h K
   |.exit i=>K (.exit i) e h
   |.ret=>K .ret e h
def YR (ev:bD->List O->Option Ex->(Ex->bD->List O->Option Ex->T α)->T α):Nat->bD->List O->Option Ex->(Ex->bD->List O->Option Ex->T α)->T α
 |0,_,_,_,_=>.fail 91
 | n+1,e,h,g,K=>ev e h g fun x e h g=>match x with
   |.normal=>YR ev n e h g K
   |.exit i=>K (.exit i) e h g
   |.ret=>K .ret e h g
def qe:bD->List Nat->List V->bD
 |e,p::ps,x::xs=>qe ((p,x)::e) ps xs
 |e,_,_=>e
abbrev YV (α:Type):=List V->List O->(Ex->List O->T α)->T α
def LG (l:Nat) (Y:YV α) (t:Nat) (d:Option Nat) (xs:List fi) (e:bD) (h:List O) (g:Option Ex) (R:bD->List O->Option Ex->T α):T α:=gV true (iW e t) fun v=>match g,v with
 | none,.yl l'=>.obq [.yl l'] [.yl l] (ub true e xs fun vs=>Y vs h fun x h=>match x with
   |.normal=>R (dQ e d (.kb true)) h none
   |.exit i=>R (dQ e d (.kb false)) h (some (.exit i))
   |.ret=>R (dQ e d (.kb false)) h (some .ret))
 |_,_=>.fail 92
def dh (cf:CF α) (l:Nat) (Y:YV α):List m7->bD->List O->Option Ex->(bD->List O->Option Ex->T α)->T α
 |[],e,h,g,K=>K e h g
 |.op o::rest,e,h,g,K=>fR cf [o] e h fun e h=>dh cf l Y rest e h g K
 | .yld t d xs::rest,e,h,g,K=>match g,iW e t with
   | none,.yl l'=>.obq [.yl l'] [.yl l] (ub true e xs fun vs=>Y vs h fun x h=>match x with
     |.normal=>dh cf l Y rest (dQ e d (.kb true)) h none K
     |.exit i=>dh cf l Y rest (dQ e d (.kb false)) h (some (.exit i)) K
     |.ret=>dh cf l Y rest (dQ e d (.kb false)) h (some .ret) K)
   |_,_=>.fail 92
 | .yldG d want t dst xs::rest,e,h,g,K=>match iW e d with
   | .kb b=>match decEq b want with
     |.isTrue _=>LG l Y t dst xs e h g fun e h g=>dh cf l Y rest e h g K
     |.isFalse _=>dh cf l Y rest (dQ e dst (.tup [])) h g K
   |.tup _=>dh cf l Y rest (dQ e dst (.tup [])) h g K
   |.int ..=>dh cf l Y rest (dQ e dst (.tup [])) h g K
   |.bool b=>.br (gB b want) (LG l Y t dst xs ((d,.kb want)::e) h g fun e h g=>dh cf l Y rest e h g K) (dh cf l Y rest (dQ ((d,.kb (!want))::e) dst (.tup [])) h g K)
   | .gd c v=>match nu v with
     |none=>.fail 104
     |some b=>.br (c&&gB b want) (LG l Y t dst xs ((d,.kb want)::e) h g fun e h g=>dh cf l Y rest e h g K) (dh cf l Y rest (dQ e dst (.tup [])) h g K)
   |_=>.fail 105
abbrev kk:=Nat->Nat
def mA (cf:CF α) (cp:CP α) (un:kk) (fr:Nat×Nat) (rd:RD) (Y:YV α):Nat->gW->bD->List O->Option Ex->(Ex->bD->List O->Option Ex->T α)->T α
 |_,.skip,e,h,g,K=>K .normal e h g
 |_,.reg ops,e,h,g,K=>dh cf rd.l Y ops e h g (K .normal)
 |_,.draw ds,e,h,g,K=>vj cp ds e h fun e h=>K .normal e h g
 |_,.drawY ds xs,e,h,g,K=>vj cp ds e h fun e h=>dh cf rd.l Y xs e h g (K .normal)
 | bi,.seq a b,e,h,g,K=>mA cf cp un fr rd Y bi a e h g fun x e h g=>match x with
   |.normal=>mA cf cp un fr rd Y bi b e h g K
   |.exit i=>K (.exit i) e h g
   |.ret=>K .ret e h g
 | bi,.cond c a b,e,h,g,K=>match dj e c with
   |.kb true=>mA cf cp un fr rd Y bi a e h g K
   |.kb false=>mA cf cp un fr rd Y bi b e h g K
   | .bool t=>match c with
     |.t s=>.br t (mA cf cp un fr rd Y bi a ((s,.kb true)::e) h g K) (mA cf cp un fr rd Y bi b ((s,.kb false)::e) h g K)
     |_=>.br t (mA cf cp un fr rd Y bi a e h g K) (mA cf cp un fr rd Y bi b e h g K)
   |_=>.fail 69
 | _,.block id b,e,h,g,K=>mA cf cp un fr rd Y id b e h g fun x e h g=>match x with
   |.exit i=>cond (Nat.beq i id) (K .normal e h g) (K (.exit i) e h g)
   |.normal=>K .normal e h g
   |.ret=>K .ret e h g
 | bi,.loop b,e,h,g,K=>match un bi with
   |0=>.loop fr (.i b rd) e h g K
   |n+1=>YR (mA cf cp un fr rd Y bi b) (n+1) e h g K
 |_,.exit id,e,h,g,K=>K (.exit id) e h g
 |_,.ret,e,h,g,K=>K .ret e h g
 |bi,.scope b,e,h,g,K=>mA cf cp un fr rd Y bi b e h g K
def anj (K:Ex->bD->List O->T α) (e:bD):Ex->bD->List O->Option Ex->T α
 |.exit _,_,_,_=>.fail 93
 |.normal,_,h,none=>K .normal e h
 |.normal,_,h,some x=>K x e h
 |.ret,_,h,none=>K .normal e h
 |.ret,_,h,some x=>K x e h
def LN:List V->Nat->bD
 |[],_=>[]
 |v::vs,i=>(i,v)::LN vs (i+1)
def D5 (cf:CF α):OT->bD->List O->(bD->List O->T α)->T α
 |.done,e,h,K=>K e h
 |.op o r,e,h,K=>fR cf [o] e h fun e h=>D5 cf r e h K
 |.alt a b,e,h,K=>.und (D5 cf a e h K) (D5 cf b e h K)
def ti (cf:CF α) (cp:CP α) (un:kk):Nat×Nat->Nat->fS->bD->List O->(Ex->bD->List O->T α)->T α
 |_,_,.skip,e,h,K=>K .normal e h
 |_,_,.reg ops,e,h,K=>fR cf ops e h (K .normal)
 |_,_,.draw ds,e,h,K=>vj cp ds e h (K .normal)
 |_,_,.allo t,e,h,K=>D5 cf t e h (K .normal)
 |_,_,.alloq t,e,h,K=>D5 (fun f vs h K=>cp true f vs h fun v=>K v h) t e h (K .normal)
 | fr,bi,.seq a b,e,h,K=>ti cf cp un fr bi a e h fun x e h=>match x with
   |.normal=>ti cf cp un fr bi b e h K
   |.exit i=>K (.exit i) e h
   |.ret=>K .ret e h
 | fr,bi,.cond c a b,e,h,K=>match dj e c with
   |.kb true=>ti cf cp un fr bi a e h K
   |.kb false=>ti cf cp un fr bi b e h K
   | .bool t=>match c with
     |.t s=>.br t (ti cf cp un fr bi a ((s,.kb true)::e) h K) (ti cf cp un fr bi b ((s,.kb false)::e) h K)
     |_=>.br t (ti cf cp un fr bi a e h K) (ti cf cp un fr bi b e h K)
   |_=>.fail 69
 | fr,_,.block id b,e,h,K=>ti cf cp un fr id b e h fun x e h=>match x with
   |.exit i=>cond (Nat.beq i id) (K .normal e h) (K (.exit i) e h)
   |.normal=>K .normal e h
   |.ret=>K .ret e h
 | fr,bi,.loop b,e,h,K=>match un bi with
   |0=>.loop fr (.s b) e h none fun x e h _=>K x e h
   |n+1=>evL (ti cf cp un fr bi b) (n+1) e h K
 |_,_,.exit id,e,h,K=>K (.exit id) e h
 |_,_,.ret,e,h,K=>K .ret e h
 |fr,bi,.scope b,e,h,K=>ti cf cp un fr bi b e h K
 | fr, bi,.range g ps asg body its,e,h,K=>match dj e g with
   | .fn f [] ys=>match CC its f with
     | some it=>cond (Nat.ble (bI ys+1) it.ntmps) (.all fun l=>mA cf cp un (fr.1,bI h) ⟨ps,asg,body,e,l⟩ (fun vs h K=>cond (Nat.beq (bI vs) (bI ps)) (ti cf cp un (fr.1,bI h) bi asg (qe e ps vs) h fun x e1 h1=>match x with
        |.normal=>ti cf cp un (fr.1,bI h) bi body e1 h1 fun x _ h2=>K x h2
        |_=>.fail 94) (.fail 95)) 0 it.body ((0,.yl l)::LN ys 1) h none (anj K e)) (.fail 96)
     |none=>.fail 97
   |_=>.fail 98
def yal (e:bD) (h:List O):List Bs->(List V->T α)->T α
 |[],K=>K []
 |.tmp t::l,K=>gV true (iW e t) fun v=>yal e h l fun vs=>K (v::vs)
 | .cell t n::l,K=>match n with
   | none=>XP true h (iW e t) (match ldV h (iW e t) with
     |some v=>yal e h l fun vs=>K (v::vs)
     |none=>.fail 70)
   | some n=>XP true h (iW e t) (match Wv h n (iW e t) with
     |some cs=>yal e h l fun vs=>K (.agg cs::vs)
     |none=>.fail 71)
def sP:List V->V
 |[v]=>v
 |vs=>.tup vs
def m6 (cf:CF α) (cp:CP α) (un:kk) (lv:Nat) (sf:aK) (args:List V) (h:List O) (K:V->List O->T α):T α :=
 cond (Nat.ble (bI args) sf.ntmps) (ti cf cp un (lv,bI h) 0 sf.body (LN args 0) h fun x e h=>match x with
  |.exit _=>.fail 72
  |_=>yal e h sf.res fun vs=>K (sP vs) (undead h)) (.fail 73)
def bc (cs:List V) (off e:Nat):Nat->List V:=fun i=>(cs.drop (off+i*e)).take e
def rJ (v:V):V:=cond v.fc v .any
def kI (h:List O):Nat->V->V
 |0,_=>.any
 | fu + 1,v=>match v with
   |.int k n=>.int k n
   |.bool b=>.bool b
   |.kb b=>.bool b
   |.str s=>.str s
   |.sl n f=>.sl n f
   |.sq n m f=>.sq n m f
   |.pd cs=>.pd cs
   |.ns=>.sl 0 fun _=>[]
   |.agg cs=>.agg (cs.map (kI h fu))
   |.fn f xs ys=>.fn f (xs.map (kI h fu)) (ys.map (kI h fu))
   | .pl k off=>match fM h k with
     |some (.cells cs _)=>cond (Nat.ble off (bI cs)) (.pd ((cs.drop off).map fun v=>rJ (kI h fu v))) .any
     |_=>.any
   | .gs k n=>match fM h k with
     |some (.gl _ n' f _)=>cond (Nat.ble n n') (.sl n fun i=>(f i).map fun v=>rJ (kI h fu v)) .any
     |_=>.any
   | .ss k off n c=>match fM h k with
     | some (.cells cs _)=>cond (Nat.ble n 9223372036854775807&&(Nat.ble n c&&Nat.ble (off+n*((bI cs-off) / c)) (bI cs)))
        (.sq n c (bc (cs.map fun v=>rJ (kI h fu v)) off ((bI cs-off) / c))) .any
     |_=>.any
   |_=>.any
def Dm:V->V
 |.int k n=>.int k n
 |.bool b=>.bool b
 |.kb b=>.bool b
 |.str s=>.str s
 |.sl n f=>.sl n f
 |.pd cs=>.pd cs
 |_=>.any
def y4 (f:aL):Nat->List V:=fun i=>(f i).map Dm
def Ie (h:List O) (k n:Nat):V:=match fM h k with
 |some (.gl e _ f _)=>cond (Nat.beq e 6) (kI h 11 (.gs k n)) (.sl n (y4 f))
 |_=>.any
def Io (h:List O):V->V
 |.gs k n=>Ie h k n
 |v=>kI h 11 v
def rF (h:List O):V->V
 |.gs k n=>Ie h k n
 |.agg cs=>.agg (cs.map (Io h))
 |v=>kI h 12 v
def IT (h:List O) (k n:Nat):List (Nat×Nat):=match fM h k with
 |some (.gl _ n' _ _)=>[(n,n')]
 |_=>[]
def abP (h:List O):V->List (Nat×Nat)
 |.gs k n=>IT h k n
 |_=>[]
def Fx (h:List O):List V->List (Nat×Nat)
 |[]=>[]
 |v::vs=>xl (abP h v) (Fx h vs)
def adw (h:List O):V->List (Nat×Nat)
 |.gs k n=>IT h k n
 |.agg cs=>Fx h cs
 |_=>[]
def qd (h:List O):List V->List (Nat×Nat)
 |[]=>[]
 |v::vs=>xl (adw h v) (qd h vs)
def obs:List (Nat×Nat)->T α->T α
 |[],x=>x
 |p::l,x=>.ob (Nat.ble p.1 p.2) (obs l x)
end
end Go.Dx
namespace Go.Sx
inductive D where
 |v (a:ak)
 |ag (ds:List D)
 |sl (esz:Nat) (els:List (List D))
 |pt (ds:List D)
 |fn (f:FuncId) (xs ys:List D)
def bm:ak->Bool
 |.int ..|.bool ..|.str ..=>true
 |_=>false
def D.isC:D->Bool
 |.v _|.sl ..|.pt _=>true
 |_=>false
def okP (lh:List ao):Option gR->Prop
 |some (.l k _)=>isCells lh[k]? = true
 |_=>True
section
variable (w0:World) (lh:List ao)
mutual
def rd:D->ak->Prop
 |.v b,a=>bm b=true/\a=b
 |.ag ds,a=>∃ cs,a=.agg cs/\rdC ds cs
 |.sl esz els,a=>∃ p c,a=.slice p els.length c/\els.length<=9223372036854775807/\okP lh p/\KM els esz p 0
 |.pt ds,a=>∃ p cs,a=.ptr (some p)/\lds w0 lh p ds.length=some cs/\rdC ds cs
 |.fn f xs ys,a=>∃ us vs,a=.fn (.func f) us vs/\rdL xs us/\rdL ys vs
def rdL:List D->List ak->Prop
 |[],cs=>cs=[]
 |d::ds,cs=>∃ x xs,cs=x::xs/\rd d x/\rdL ds xs
def rdC:List D->List ak->Prop
 |[],cs=>cs=[]
 |d::ds,cs=>∃ x xs,cs=x::xs/\d.isC=true/\rd d x/\rdC ds xs
def KM:List (List D)->Nat->Option gR->Nat->Prop
 |[],_,_,_=>True
 |e::es,esz,p,i=>(∃ q cs,p=some q/\lds w0 lh (q.add (i*esz)) esz=some cs/\rdC e cs)/\KM es esz p (i+1)
end
end
def plain:ak->Bool
 |.agg cs=>cs.all bm
 | .tup cs=>cs.all fun
   |.agg ds=>ds.all bm
   |a=>bm a
 |a=>bm a
theorem pS {m m':aF} {a:ak} {v:Value} (hs:bm a=true) (h:vrel m a v):vrel m' a v:=by
 cases a<;>simp only[bm]at hs<;>first|(simp only[vrel]at h ⊢;exact h)|cases hs
theorem iS {m m':aF}:∀ {az:List ak} {vs:List Value},az.all bm=true->ar m az vs->ar m' az vs
 |[],_,_,h=>by simp only[ar]at h ⊢;exact h
 | a::az,_,hs,h=>by
   simp only [adT,aaw]at hs
   simp only [ar]at h ⊢
   obtain ⟨u,us,rfl,h1,h2⟩:=h
   exact ⟨u,us,rfl,pS hs.1 h1,iS hs.2 h2⟩
theorem Es {m m':aF} {a:ak} {v:Value} (hs:(match a with|.agg ds=>ds.all bm|a=>bm a)=true) (h:vrel m a v):vrel m' a v:=by
 cases a with
 |agg cs=>simp only[vrel]at h ⊢;obtain⟨vs,rfl,h⟩:=h;exact⟨vs,rfl,iS hs h⟩
 |_=>exact pS hs h
theorem vg {m m':aF}:∀ {az:List ak} {vs:List Value},(az.all fun|.agg ds=>ds.all bm|a=>bm a)=true->ar m az vs->ar m' az vs
 |[],_,_,h=>by simp only[ar]at h ⊢;exact h
 | a::az,_,hs,h=>by
   simp only [adT,aaw]at hs
   simp only [ar]at h ⊢
   obtain ⟨u,us,rfl,h1,h2⟩:=h
   exact ⟨u,us,rfl,Es hs.1 h1,vg hs.2 h2⟩
theorem KX {m m':aF} {a:ak} {v:Value} (hs:plain a=true) (h:vrel m a v):vrel m' a v:=by
 cases a with
 |agg cs=>simp only[vrel]at h ⊢;obtain⟨vs,rfl,h⟩:=h;exact⟨vs,rfl,iS hs h⟩
 |tup cs=>simp only[vrel]at h ⊢;obtain⟨vs,rfl,h⟩:=h;exact⟨vs,rfl,vg hs h⟩
 |_=>exact pS hs h
theorem sN {p:Nat->Prop} {a:ak} (hs:bm a=true):kl p a:=by
 cases a<;>first|(simp only[kl];done)|(simp only[bm]at hs;cases hs)
theorem pQ {p:Nat->Prop}:∀ {az:List ak},az.all bm=true->iX p az
 |[],_=>by simp only[iX]
 | a::az,hs=>by
   simp only [adT,aaw]at hs
   simp only [iX];exact⟨sN hs.1,pQ hs.2⟩
theorem yp {p:Nat->Prop}:∀ {az:List ak},(az.all fun|.agg ds=>ds.all bm|a=>bm a)=true->iX p az
 |[],_=>by simp only[iX]
 | a::az,hs=>by
   simp only [adT,aaw]at hs
   simp only [iX]
   refine ⟨?_,yp hs.2⟩
   cases a with
   |agg cs=>simp only[kl];exact pQ hs.1
   |_=>exact sN hs.1
theorem RP {p:Nat->Prop} {a:ak} (hs:plain a=true):kl p a:=by
 cases a with
 |agg cs=>simp only[kl];exact pQ hs
 |tup cs=>simp only[kl];exact yp hs
 |_=>exact sN hs
section
variable {B:cY} {m:aF} {lh:List ao} {w:World}
theorem jG {w:World} {a:Addr}:∀ (vs:List Value) (i:Nat),(∀ j v,vs[j]? = some v->w.cell? (a.add (i+j))=some v)->fG w a i vs.length=some (vs.map bz)
 |[],i,_=>rfl
 | v::vs,i,h=>by
   have h0:=h 0 v rfl
   simp only [ajZ]at h0
   have ih:=jG vs (i+1) (fun j u hu=>by have:=h (j+1) u (by simpa using hu);rw[← this];congr 2;omega)
   simp only [adM,fG,h0,ih,ahC]
theorem xC (h:a7 B m lh w) {p:gR} {q:Option Addr} (hq:dC m (some p) q) {n:Nat} {xs:List ak} (hx:lds B.w0 lh p n=some xs) :
 ∃ a us,q=some a/\lds w [] (.g a) n=some (us.map bz)/\ar m xs us:=by
 cases p with
 | l k off =>
   simp only [lds]at hx
   split at hx
   ·rename_i cs ty hk
    split at hx
    ·rename_i hle
     cases hx
     obtain ⟨b,hb,rfl⟩:=hq
     obtain ⟨b',vs,hb',hvs,hh,_⟩:=h.loc k cs ty hk
     rw [hb]at hb';cases hb'
     have hl:=cv hvs
     have hr:=eJ n (fx off hvs)
     have hn:((vs.toList.drop off).take n).length=n:=by simp at hl ⊢;omega
     refine ⟨_,(vs.toList.drop off).take n,rfl,?_,hr⟩
     have:=jG (w:=w) (a:=⟨b,off,none⟩) ((vs.toList.drop off).take n) 0 (fun j v hv=>by
      rw [lL]
      rw [afz]at hv
      split at hv
      ·rw[ahB]at hv
       simp only [World.cell?,hh];simpa using hv
      ·cases hv)
     rw [hn]at this
     exact this
    ·cases hx
   ·cases hx
 | g a =>
   simp only [dC]at hq;subst hq
   obtain ⟨vs,rfl,h2,h3⟩:=d7 n 0 xs hx
   refine ⟨a,vs,rfl,?_,bT m vs⟩
   have:=jG (w:=w) (a:=a) vs 0 (fun j v hv=>h.cell_g (h3 j v hv))
   rw [h2]at this
   exact this
theorem a7.back (h:a7 B m lh w) {m1:aF} {lh1:List ao} {w':World} (h':a7 ⟨w,w,fun _=>False,[]⟩ m1 lh1 w'):a7 B m lh w':=by
 have hold:∀ b,b<w.heap.size->w'.heap[b]? = w.heap[b]? := fun b hb=>h'.old b hb
 have hsz:w.heap.size<=w'.heap.size:=h'.size
 refine ⟨h'.os.trans h.os,h'.tape.trans h.tape,h'.output.trans h.output,ajf h.size hsz,fun b hb=>?_,ajf h.fsize hsz,fun b hb ho=>?_,fun k cs ty hk=>?_,h.inj,h.dom,h.dead,fun k b hb=>ahs (h.rng k b hb) hsz⟩
 ·rw[hold b (ahs hb h.size)];exact h.old b hb
 ·rw[hold b (ahs hb h.fsize)];exact h.kept b hb ho
 ·obtain⟨b,vs,h1,h2,h3,h4⟩:=h.loc k cs ty hk
  exact ⟨b,vs,h1,h2,by rw[hold b (h.rng k b h1)];exact h3,h4⟩
end
end Go.Sx
namespace Go.Dx
open Go.Sx
structure Nu where
 m:Nat->Option (Option (Nat×Nat×Nat))
 z:List ao
instance:CoeFun Nu fun _=>Nat->Option (Option (Nat×Nat×Nat)):=⟨Nu.m⟩
def uh (a b:List ao):Prop:=∀ (k:Nat) (az:List ak) (ty:TypeId),a[k]? = some (ao.cells az ty)->b[k]? = some (ao.cells az ty)
theorem lA (a:List ao):uh a a:=fun _ _ _ h=>h
theorem J2 (a:List ao):uh [] a:=fun _ _ _ h=>by simp at h
theorem oP {a b c:List ao} (h:uh a b) (k:uh b c):uh a c:=fun i az ty hx=>k i az ty (h i az ty hx)
def Nu.nil:Nu:=⟨fun _=>none,[]⟩
def Nu.sub (ν ν':Nu):Prop:=(∀ k x,ν k=some x->ν' k=some x)/\uh ν.z ν'.z
theorem Nu.nil_sub (ν:Nu):Nu.nil.sub ν:=⟨fun _ _ h=>by(cases h),J2 _⟩
theorem Nu.sub_refl (ν:Nu):ν.sub ν:=⟨fun _ _ h=>h,lA _⟩
theorem Nu.sub_trans {a b c:Nu} (h:a.sub b) (k:b.sub c):a.sub c:=⟨fun i x hx=>k.1 i x (h.1 i x hx),oP h.2 k.2⟩
def okQ (lh:List ao):Option gR->Prop
 |some (.l k off)=>∃ cs ty,lh[k]? = some (ao.cells cs ty)/\off<=cs.length
 |_=>True
mutual
def vr (w0:World) (lh:List ao) (ν:Nu):V->ak->Prop
 |.int k n,a=>a=.int k n
 |.bool b,a=>a=.bool b
 |.kb b,a=>a=.bool b
 |.str s,a=>a=.str s
 |.agg cs,a=>∃ az,a=.agg az/\bg w0 lh ν cs az
 |.tup cs,a=>∃ az,a=.tup az/\bg w0 lh ν cs az
 |.fn f xs ys,a=>∃ us vs,a=.fn (.func f) us vs/\bg w0 lh ν xs us/\bg w0 lh ν ys vs
 |.sl n f,a=>∃ p c esz,a=.slice p n c/\n<=c/\n<=9223372036854775807/\okQ lh p/\∀ i,i<n->∃ q az,p=some q/\lds w0 lh (q.add (i*esz)) esz=some az/\bg w0 lh Nu.nil (f i) az/\(f i).all V.fc=true
 |.sq n m f,a=>∃ p c esz,a=.slice p n c/\(n<=c/\n<=m)/\n<=9223372036854775807/\okQ lh p/\∀ i,i<n->∃ q az,p=some q/\lds w0 lh (q.add (i*esz)) esz=some az/\bg w0 lh Nu.nil (f i) az/\(f i).all V.fc=true
 |.pd cs,a=>∃ p az,a=.ptr (some p)/\okP lh (some p)/\lds w0 lh p cs.length=some az/\bg w0 lh Nu.nil cs az/\cs.all V.fc=true
 |.pl k off,a=>∃ b c e,ν k=some (some (b,c,e))/\a=.ptr (some (.l b off))
 |.pe k i j,a=>∃ b c e,ν k=some (some (b,c,e))/\a=.ptr (some (.l b (i*e+j)))
 |.ss k off n c,a=>∃ b c' e,ν k=some (some (b,c',e))/\a=.slice (some (.l b off)) n c
 |.gs k n,a=>(ν k=some none/\n=0/\a=.slice none 0 0)∨∃ b c e,ν k=some (some (b,c,e))/\a=.slice (some (.l b 0)) n c/\n<=c
 |.ns,a=>a=.slice none 0 0
 |.np,a=>a=.ptr none
 |.any,_=>True
 |.gd b v,a=>(b=true->vr w0 lh ν v a)/\(b=false->∃ l,a=.tup l)
 |.yl l,a=>a=iZ l
 |.go k off n,a=>(ν k=some none/\n=0/\off=0/\a=.slice none 0 0)∨∃ b c e o,ν k=some (some (b,c,e))/\a=.slice (some (.l b o)) n (c-off)/\(off+n<=c/\o<=c*e)/\(0<n->o=off*e)
def bg (w0:World) (lh:List ao) (ν:Nu):List V->List ak->Prop
 |[],az=>az=[]
 |v::vs,az=>∃ x xs,az=x::xs/\vr w0 lh ν v x/\bg w0 lh ν vs xs
end
section lists
variable {α β:Type}
theorem be:∀ (l:List α) (i:Nat),fM l i=l[i]?
 |[],_=>by simp[fM]
 |_::_,0=>by simp[fM]
 |_::l,i+1=>by simp[fM,be l i]
theorem gK:∀ (l:List α) (i:Nat) (b:α),zG l i b=l.set i b
 |[],_,_=>rfl
 |_::_,0,_=>rfl
 |_::l,i+1,b=>by simp[zG,gK l i b]
theorem xk:∀ (l:List α) (b:α),Hf l b=l++[b]
 |[],_=>rfl
 |_::l,b=>by simp[Hf,xk l b]
theorem kO:∀ (l b:List α),xl l b=l++b
 |[],_=>rfl
 |_::l,b=>by simp[xl,kO l b]
theorem bG:∀ (l:List α),bI l=l.length
 |[]=>rfl
 |_::l=>by simp[bI,bG l]
theorem vm:∀ {n:Nat} {l r:List α},rA n l=some r->n<=l.length/\r=l.drop n
 |0,l,r,h=>by simp[rA]at h;simp[h]
 |n+1,[],r,h=>by simp[rA]at h
 | n+1,_::l,r,h=>by
   simp only [rA]at h
   obtain ⟨h1,h2⟩:=vm h
   exact ⟨by simp;exact h1,by simpa using h2⟩
theorem xg:∀ {n:Nat} {l r:List α},wZ n l=some r->n<=l.length/\r=l.take n
 |0,l,r,h=>by simp[wZ]at h;simp[h]
 |n+1,[],r,h=>by simp[wZ]at h
 | n+1,a::l,r,h=>by
   simp only [wZ]at h
   split at h
   ·rename_i r' hr
    cases h
    obtain ⟨h1,h2⟩:=xg hr
    exact ⟨by simp;exact h1,by simp[h2]⟩
   ·cases h
theorem rM {l r:List α} {off n:Nat} (h:Fv l off n=some r):off+n<=l.length/\r=(l.drop off).take n:=by
 unfold Fv at h
 split at h
 ·rename_i r' hr
  obtain ⟨h1,rfl⟩:=vm hr
  obtain ⟨h3,rfl⟩:=xg h
  simp at h3
  exact ⟨by omega,rfl⟩
 ·cases h
end lists
section
variable {w0:World} {lh:List ao} {ν ν':Nu}
mutual
theorem ot (hn:∀ k x,ν k=some x->ν' k=some x):∀ (v:V) (a:ak),vr w0 lh ν v a->vr w0 lh ν' v a
 |.int ..,a,h=>by simp only[vr]at h ⊢;exact h
 |.bool ..,a,h=>by simp only[vr]at h ⊢;exact h
 |.kb ..,a,h=>by simp only[vr]at h ⊢;exact h
 |.str ..,a,h=>by simp only[vr]at h ⊢;exact h
 |.agg cs,a,h=>by simp only[vr]at h ⊢;obtain⟨az,h1,h2⟩:=h;exact⟨az,h1,gA hn cs az h2⟩
 |.tup cs,a,h=>by simp only[vr]at h ⊢;obtain⟨az,h1,h2⟩:=h;exact⟨az,h1,gA hn cs az h2⟩
 |.fn f xs ys,a,h=>by simp only[vr]at h ⊢;obtain⟨us,vs,h1,h2,h3⟩:=h;exact⟨us,vs,h1,gA hn xs us h2,gA hn ys vs h3⟩
 | .sl n f,a,h=>by
   simp only [vr]at h ⊢
   obtain ⟨p,c,esz,h1,h2,h3,h4,h5⟩:=h
   exact ⟨p,c,esz,h1,h2,h3,h4,fun i hi=>let ⟨q,az,g1,g2,g3⟩:=h5 i hi;⟨q,az,g1,g2,g3⟩⟩
 | .sq n m f,a,h=>by
   simp only [vr]at h ⊢
   obtain ⟨p,c,esz,h1,h2,h3,h4,h5⟩:=h
   exact ⟨p,c,esz,h1,h2,h3,h4,fun i hi=>let ⟨q,az,g1,g2,g3⟩:=h5 i hi;⟨q,az,g1,g2,g3⟩⟩
 |.pd cs,a,h=>by simp only[vr]at h ⊢;obtain⟨p,az,h1,h2,h3,h4⟩:=h;exact⟨p,az,h1,h2,h3,h4⟩
 |.pl k off,a,h=>by simp only[vr]at h ⊢;obtain⟨b,c,e,h1,h2⟩:=h;exact⟨b,c,e,hn _ _ h1,h2⟩
 |.pe k i j,a,h=>by simp only[vr]at h ⊢;obtain⟨b,c,e,h1,h2⟩:=h;exact⟨b,c,e,hn _ _ h1,h2⟩
 |.ss k off n c,a,h=>by simp only[vr]at h ⊢;obtain⟨b,c',e,h1,h2⟩:=h;exact⟨b,c',e,hn _ _ h1,h2⟩
 | .gs k n,a,h=>by
   simp only [vr]at h ⊢
   rcases h with ⟨h1,h2⟩|⟨b,c,e,h1,h2⟩
   ·exact .inl ⟨hn _ _ h1,h2⟩
   ·exact .inr ⟨b,c,e,hn _ _ h1,h2⟩
 |.ns,a,h=>by simp only[vr]at h ⊢;exact h
 |.np,a,h=>by simp only[vr]at h ⊢;exact h
 |.any,a,h=>by simp only[vr]
 |.gd b v,a,h=>by simp only[vr]at h ⊢;exact⟨fun e=>ot hn v a (h.1 e),h.2⟩
 |.yl l,a,h=>by simp only[vr]at h ⊢;exact h
 | .go k off n,a,h=>by
   simp only [vr]at h ⊢
   rcases h with ⟨h1,h2⟩|⟨b,c,e,o,h1,h2⟩
   ·exact .inl ⟨hn _ _ h1,h2⟩
   ·exact .inr ⟨b,c,e,o,hn _ _ h1,h2⟩
theorem gA (hn:∀ k x,ν k=some x->ν' k=some x):∀ (vs:List V) (az:List ak),bg w0 lh ν vs az->bg w0 lh ν' vs az
 |[],az,h=>by simp only[bg]at h ⊢;exact h
 |v::vs,az,h=>by simp only[bg]at h ⊢;obtain⟨x,xs,h1,h2,h3⟩:=h;exact⟨x,xs,h1,ot hn v x h2,gA hn vs xs h3⟩
end
theorem I9 (hn:ν.sub ν') (v:V) (a:ak) (h:vr w0 lh ν v a):vr w0 lh ν' v a:=ot hn.1 v a h
theorem jW (hn:ν.sub ν') (v:List V) (a:List ak) (h:bg w0 lh ν v a):bg w0 lh ν' v a:=gA hn.1 v a h
theorem wL {lh lh':List ao} (hz:uh lh lh') {p:gR} {n:Nat} {az:List ak} (h:lds w0 lh p n=some az):lds w0 lh' p n=some az:=by
 cases p with
 |g a=>exact h
 | l k off =>
   simp only [lds]at h ⊢
   cases hk:lh[k]? with
   |none=>rw[hk]at h;cases h
   | some o =>
     cases o with
     |dead=>rw[hk]at h;cases h
     |hid=>rw[hk]at h;cases h
     |cells cs ty=>rw[hz k cs ty hk];rw[hk]at h;exact h
theorem ai4 {lh lh':List ao} (hz:uh lh lh') {p:Option gR} (h:okP lh p):okP lh' p:=by
 cases p with
 |none=>trivial
 | some p =>
   cases p with
   |g a=>trivial
   | l k off =>
     simp only [okP]at h ⊢
     cases hk:lh[k]? with
     |none=>rw[hk]at h;cases h
     | some o =>
       cases o with
       |dead=>rw[hk]at h;cases h
       |hid=>rw[hk]at h;cases h
       |cells cs ty=>rw[hz k cs ty hk];rfl
theorem O7 {lh lh':List ao} (hz:uh lh lh') {p:Option gR} (h:okQ lh p):okQ lh' p:=by
 cases p with
 |none=>trivial
 | some p =>
   cases p with
   |g a=>trivial
   |l k off=>obtain⟨cs,ty,h1,h2⟩:=h;exact⟨cs,ty,hz k cs ty h1,h2⟩
theorem ybi {lh:List ao} {p:gR} {n:Nat} {az:List ak} (h:lds w0 lh p n=some az):okP lh (some p):=by
 cases p with
 |g a=>trivial
 | l k off =>
   simp only [lds]at h
   simp only [okP]
   cases hk:lh[k]? with
   |none=>rw[hk]at h;cases h
   | some o =>
     cases o with
     |dead=>rw[hk]at h;cases h
     |hid=>rw[hk]at h;cases h
     |cells cs ty=>rfl
mutual
theorem kK {lh lh':List ao} (hz:uh lh lh'):∀ {ν:Nu} (v:V) (a:ak),vr w0 lh ν v a->vr w0 lh' ν v a
 |_,.int ..,a,h=>by simp only[vr]at h ⊢;exact h
 |_,.bool ..,a,h=>by simp only[vr]at h ⊢;exact h
 |_,.kb ..,a,h=>by simp only[vr]at h ⊢;exact h
 |_,.str ..,a,h=>by simp only[vr]at h ⊢;exact h
 |_,.agg cs,a,h=>by simp only[vr]at h ⊢;obtain⟨az,h1,h2⟩:=h;exact⟨az,h1,j6 hz cs az h2⟩
 |_,.tup cs,a,h=>by simp only[vr]at h ⊢;obtain⟨az,h1,h2⟩:=h;exact⟨az,h1,j6 hz cs az h2⟩
 |_,.fn f xs ys,a,h=>by simp only[vr]at h ⊢;obtain⟨us,vs,h1,h2,h3⟩:=h;exact⟨us,vs,h1,j6 hz xs us h2,j6 hz ys vs h3⟩
 | _,.sl n f,a,h=>by
   simp only [vr]at h ⊢
   obtain ⟨p,c,esz,h1,h2,h3,h4,h5⟩:=h
   exact ⟨p,c,esz,h1,h2,h3,O7 hz h4,fun i hi=>let ⟨q,az,g1,g2,g3,g4⟩:=h5 i hi;⟨q,az,g1,wL hz g2,j6 hz (f i) az g3,g4⟩⟩
 | _,.sq n m f,a,h=>by
   simp only [vr]at h ⊢
   obtain ⟨p,c,esz,h1,h2,h3,h4,h5⟩:=h
   exact ⟨p,c,esz,h1,h2,h3,O7 hz h4,fun i hi=>let ⟨q,az,g1,g2,g3,g4⟩:=h5 i hi;⟨q,az,g1,wL hz g2,j6 hz (f i) az g3,g4⟩⟩
 |_,.pd cs,a,h=>by simp only[vr]at h ⊢;obtain⟨p,az,h1,h2,h3,h4,h5⟩:=h;exact⟨p,az,h1,ai4 hz h2,wL hz h3,j6 hz cs az h4,h5⟩
 |_,.pl k off,a,h=>by simp only[vr]at h ⊢;exact h
 |_,.pe k i j,a,h=>by simp only[vr]at h ⊢;exact h
 |_,.ss k off n c,a,h=>by simp only[vr]at h ⊢;exact h
 |_,.gs k n,a,h=>by simp only[vr]at h ⊢;exact h
 |_,.ns,a,h=>by simp only[vr]at h ⊢;exact h
 |_,.np,a,h=>by simp only[vr]at h ⊢;exact h
 |_,.any,a,h=>by simp only[vr]
 |_,.gd b v,a,h=>by simp only[vr]at h ⊢;exact⟨fun e=>kK hz v a (h.1 e),h.2⟩
 |_,.yl l,a,h=>by simp only[vr]at h ⊢;exact h
 |_,.go k off n,a,h=>by simp only[vr]at h ⊢;exact h
theorem j6 {lh lh':List ao} (hz:uh lh lh'):∀ {ν:Nu} (vs:List V) (az:List ak),bg w0 lh ν vs az->bg w0 lh' ν vs az
 |_,[],az,h=>by simp only[bg]at h ⊢;exact h
 |_,v::vs,az,h=>by simp only[bg]at h ⊢;obtain⟨x,xs,h1,h2,h3⟩:=h;exact⟨x,xs,h1,kK hz v x h2,j6 hz vs xs h3⟩
end
theorem acz (hn:ν.sub ν') (v:V) (a:ak) (h:vr w0 ν.z ν v a):vr w0 ν'.z ν' v a:=I9 hn v a (kK hn.2 v a h)
theorem Ep (hn:ν.sub ν') (v:List V) (a:List ak) (h:bg w0 ν.z ν v a):bg w0 ν'.z ν' v a:=jW hn v a (j6 hn.2 v a h)
theorem bC:∀ {vs:List V} {az:List ak},bg w0 lh ν vs az->az.length=vs.length
 |[],_,h=>by simp only[bg]at h;subst h;rfl
 |_::_,_,h=>by simp only[bg]at h;obtain⟨x,xs,rfl,_,h3⟩:=h;simp[bC h3]
theorem mN:∀ {vs:List V} {az:List ak} {i:Nat} {v:V},bg w0 lh ν vs az->vs[i]? = some v->∃ a,az[i]? = some a/\vr w0 lh ν v a
 |[],_,_,_,_,h=>by simp at h
 | _::_,_,0,_,hr,h=>by
   simp only [bg]at hr;obtain⟨x,xs,rfl,h2,_⟩:=hr
   simp at h;subst h;exact⟨x,rfl,h2⟩
 | _::_,_,i+1,_,hr,h=>by
   simp only [bg]at hr;obtain⟨x,xs,rfl,_,h3⟩:=hr
   simp at h
   obtain ⟨a,h4,h5⟩:=mN h3 h
   exact ⟨a,by simpa using h4,h5⟩
theorem fN:∀ {vs:List V} {az:List ak} (n:Nat),bg w0 lh ν vs az->bg w0 lh ν (vs.drop n) (az.drop n)
 |vs,az,0,h=>by simpa using h
 |[],az,n+1,h=>by simp only[bg]at h;subst h;simp[bg]
 |_::_,az,n+1,h=>by simp only[bg]at h;obtain⟨x,xs,rfl,_,h3⟩:=h;simpa using fN n h3
theorem gN:∀ {vs:List V} {az:List ak} (n:Nat),bg w0 lh ν vs az->bg w0 lh ν (vs.take n) (az.take n)
 |vs,az,0,h=>by simp[bg]
 |[],az,n+1,h=>by simp only[bg]at h;subst h;simp[bg]
 | _::_,az,n+1,h=>by
   simp only [bg]at h;obtain⟨x,xs,rfl,h2,h3⟩:=h
   simp only [List.take_succ_cons,bg];exact⟨_,_,rfl,h2,gN n h3⟩
theorem ki:∀ {vs vs':List V} {az as':List ak},bg w0 lh ν vs az->bg w0 lh ν vs' as'->bg w0 lh ν (vs++vs') (az++as')
 |[],_,_,_,h,h'=>by simp only[bg]at h;subst h;simpa using h'
 | _::_,_,_,_,h,h'=>by
   simp only [bg]at h;obtain⟨x,xs,rfl,h2,h3⟩:=h
   simp only [api,bg];exact⟨_,_,rfl,h2,ki h3 h'⟩
theorem o4 {α:Type}:∀ {cs:List α} {off:Nat} {xs r:List α},qv cs off xs=some r->off+xs.length<=cs.length/\r.length=cs.length
 |cs,0,[],r,h=>by simp[qv]at h;simp[h]
 |[],0,x::xs,r,h=>by simp[qv]at h
 | c::cs,0,x::xs,r,h=>by
   simp only [qv]at h
   split at h
   ·rename_i r' hr
    cases h
    have:=o4 hr
    simp at this ⊢;omega
   ·cases h
 |[],off+1,xs,r,h=>by simp[qv]at h
 | c::cs,off+1,xs,r,h=>by
   simp only [qv]at h
   split at h
   ·rename_i r' hr
    cases h
    have:=o4 hr
    simp at this ⊢;omega
   ·cases h
theorem zE (c:ak):∀ (xs cs:List ak) (off:Nat),wr (c::cs) (off+1) xs=c::wr cs off xs
 |[],_,_=>rfl
 |x::xs,cs,off=>by simp only[wr,List.set_cons_succ];exact zE c xs _ _
theorem w7:∀ {cs:List V} {off:Nat} {xs:List V} {us:List ak} {az:List ak} {r:List V},bg w0 lh ν cs az->bg w0 lh ν xs us->qv cs off xs=some r->bg w0 lh ν r (wr az off us)
 | cs,0,[],us,az,r,h,hx,hw=>by
   simp only [bg]at hx;subst hx
   simp [qv]at hw;subst hw;exact h
 |[],0,x::xs,us,az,r,h,hx,hw=>by simp[qv]at hw
 | c::cs,0,x::xs,us,az,r,h,hx,hw=>by
   simp only [bg]at hx h
   obtain ⟨u,us,rfl,h1,h2⟩:=hx
   obtain ⟨a,az,rfl,h3,h4⟩:=h
   simp only [qv]at hw
   split at hw
   ·rename_i r' hr
    cases hw
    simp only [wr,List.set_cons_zero]
    rw [zE]
    simp only [bg]
    exact ⟨_,_,rfl,h1,w7 h4 h2 hr⟩
   ·cases hw
 |[],off+1,xs,us,az,r,h,hx,hw=>by simp[qv]at hw
 | c::cs,off+1,xs,us,az,r,h,hx,hw=>by
   simp only [bg]at h
   obtain ⟨a,az,rfl,h3,h4⟩:=h
   simp only [qv]at hw
   split at hw
   ·rename_i r' hr
    cases hw
    rw [zE]
    simp only [bg]
    exact ⟨_,_,rfl,h3,w7 h4 hx hr⟩
   ·cases hw
theorem PM (a:ak):vr w0 lh ν (H3 a) a:=by
 unfold H3
 split<;>simp only[vr,bg]
 exact ⟨_,_,rfl,rfl,rfl⟩
theorem oZ:∀ l:List ak,bg w0 lh ν (l.map H3) l
 |[]=>by simp[bg]
 |a::l=>by simp only[ahC,bg];exact⟨_,_,rfl,PM a,oZ l⟩
theorem I3 {v:V} {a:ak} (h:vr w0 lh ν v a) (h1:v.one=true):a.one=true:=by
 cases v<;>simp only[vr]at h
 case gs =>
  rcases h with ⟨_,_,h⟩|⟨_,_,_,_,h,_⟩<;>(subst h;rfl)
 case go =>
  rcases h with ⟨_,_,_,h⟩|⟨_,_,_,_,_,h,_⟩<;>(subst h;rfl)
 all_goals first
  |(simp[V.one]at h1;done)
  |(subst h;rfl)
  |(obtain⟨_,_,rfl,_⟩:=h;rfl)
  |(obtain⟨_,_,_,rfl,_⟩:=h;rfl)
  |(obtain⟨_,_,_,_,rfl⟩:=h;rfl)
theorem jP:∀ {vs:List V} {az:List ak},bg w0 lh ν vs az->vs.all V.one=true->az.all ak.one=true
 |[],_,h,_=>by simp only[bg]at h;subst h;rfl
 | _::_,_,h,h1=>by
   simp only [bg]at h;obtain⟨x,xs,rfl,h2,h3⟩:=h
   simp only [adT,aaw]at h1 ⊢
   exact ⟨I3 h2 h1.1,jP h3 h1.2⟩
theorem wg {v:V} {a:ak} (h:vr w0 lh ν v a) (h1:v.flat=true):a.flat=true/\bg w0 lh ν v.cells a.cells:=by
 by_cases hv:∃ cs,v=.agg cs
 ·obtain⟨cs,rfl⟩:=hv
  simp only [vr]at h;obtain⟨az,rfl,h2⟩:=h
  exact ⟨jP h2 h1,h2⟩
 ·have h2:v.one=true:=by
   cases v<;>first|exact h1|exact(hv ⟨_,rfl⟩).elim
  have h3:=I3 h h2
  have h4:v.cells=[v]:=by cases v<;>first|rfl|exact(hv ⟨_,rfl⟩).elim
  have h5:a.cells=[a]/\a.flat=true:=by
   cases a<;>first|exact⟨rfl,h3⟩|(simp[ak.one]at h3)
  refine ⟨h5.2,?_⟩
  rw [h4,h5.1]
  simp only [bg];exact⟨_,_,rfl,h,rfl⟩
structure fL (w0:World) (ν:Nu) (N:Nat) (e:bD) (sl:List ak):Prop where
 len:sl.length=N
 at':∀ i,vr w0 ν.z ν (iW e i) (sl.getD i .any)
theorem fL.mono {N:Nat} {e:bD} {sl:List ak} (h:fL w0 ν N e sl) (hn:ν.sub ν'):fL w0 ν' N e sl:=⟨h.len,fun i=>acz hn _ _ (h.at' i)⟩
theorem fL.arg {N:Nat} {e:bD} {sl:List ak} (h:fL w0 ν N e sl) (x:fi):vr w0 ν.z ν (dj e x) (arg sl x):=by
 cases x with
 |t i=>exact h.at' i
 |k a=>exact PM a
theorem lD (d:Nat) (v:V) (e:bD) (i:Nat):iW ((d,v)::e) i=if i=d then v else iW e i:=by
 simp only [iW]
 by_cases h:i=d
 ·subst h;simp
 ·rw [aaT h]
  have:Nat.beq i d=false:=by
   cases hb:Nat.beq i d with
   |false=>rfl
   |true=>exact(h (aax hb)).elim
  rw [this];rfl
theorem fL.set {N:Nat} {e:bD} {sl:List ak} (h:fL w0 ν N e sl) {d:Nat} (hd:d<N) {v:V} {a:ak} (hv:vr w0 ν.z ν v a):fL w0 ν N ((d,v)::e) (sl.set d a):=by
 refine ⟨by simpa using h.len,fun i=>?_⟩
 rw [lD]
 by_cases hi:i=d
 ·subst hi
  have:=h.len
  rw [aby rfl]
  simp [List.getD,aaZ,show i<sl.length by omega]
  exact hv
 ·rw[aaT hi]
  simp only [List.getD,aaZ]
  rw [aaT (fun e=>hi e.symm)]
  exact h.at' i
theorem fL.put {N:Nat} {e:bD} {sl:List ak} (h:fL w0 ν N e sl) (d:Option Nat) (hd:∀ i,d=some i->i<N) {v:V} {a:ak} (hv:vr w0 ν.z ν v a):fL w0 ν N (dQ e d v) (eb sl d a):=by
 cases d with
 |none=>exact h
 |some d=>exact h.set (hd d rfl) hv
theorem fL.know {N:Nat} {e:bD} {sl:List ak} (h:fL w0 ν N e sl) {d:Nat} {v:V} (hv:vr w0 ν.z ν v (sl.getD d .any)):fL w0 ν N ((d,v)::e) sl:=by
 refine ⟨h.len,fun i=>?_⟩
 rw [lD]
 split
 ·rename_i hi;subst hi;exact hv
 ·exact h.at' i
theorem fL.args {N:Nat} {e:bD} {sl:List ak} (h:fL w0 ν N e sl):∀ xs:List fi,bg w0 ν.z ν (xs.map (dj e)) (xs.map (Sx.arg sl))
 |[]=>by simp[bg]
 |x::xs=>by simp only[ahC,bg];exact⟨_,_,rfl,h.arg x,h.args xs⟩
end
abbrev eu:=Nat×Nat->Dw->bD->List O->Option Ex->(Ex->bD->List O->Option Ex->Prop)->Prop
def bu {α:Type} (LP:eu):T α->(α->Prop)->Prop
 |.ret a,Q=>Q a
 |.br b x y,Q=>(b=true->bu LP x Q)/\(b=false->bu LP y Q)
 |.ob b x,Q=>b=true/\bu LP x Q
 |.obi c d x,Q=>(c=true->d=true)/\bu LP x Q
 |.obp p x,Q=>p/\bu LP x Q
 |.obq a b x,Q=>a=b/\bu LP x Q
 |.fail _,_=>False
 |.loop fr body e h g k,Q=>LP fr body e h g fun ex e h g=>bu LP (k ex e h g) Q
 |.all f,Q=>∀ l,bu LP (f l) Q
 |.und x y,Q=>bu LP x Q/\bu LP y Q
 |.asm p x,Q=>p->bu LP x Q
def ba (h:List O) (k:Nat):Prop:=d9 h k=true
def El (w0:World) (ν:Nu) (nV nS:Nat) (lh:List ao) (k:Nat):O->Prop
 |.cells cs ty=>∃ b c e az,ν k=some (some (b,c,e))/\lh[b]? = some (.cells az ty)/\bg w0 ν.z ν cs az
 |.gl esz n f ty=>(ν k=some none/\n=0)∨∃ b c az,ν k=some (some (b,c,esz))/\lh[b]? = some (.cells az ty)/\az.length=c*esz/\(n<=c/\n<=9223372036854775807)/\∀ i,i<n->lX esz (f i)=true/\bg w0 ν.z ν (f i) ((az.drop (i*esz)).take esz)
 |.dead=>ν k=none/\nV<=k/\lh[nS+(k-nV)]? = some .dead
 |.hid=>True
structure HR (w0:World) (ν:Nu) (nV nS:Nat) (h:List O) (lh:List ao):Prop where
 blk:∀ k o,h[k]? = some o->El w0 ν nV nS lh k o
 inj:∀ k k' x x',ba h k->ba h k'->ν k=some (some x)->ν k'=some (some x')->x.1=x'.1->k=k'
 dom:∀ k,h.length<=k->ν k=none
 rng:∀ k x,ν k=some (some x)->x.1<lh.length
 zl:uh ν.z lh
 zn:∀ k x,ba h k->ν k=some (some x)->isCells ν.z[x.1]? = false
section
variable {w0:World} {ν ν':Nu} {nV nS:Nat} {h h':List O} {lh lh':List ao} {α:Type} {LP:eu} {Q:α->Prop}
theorem ft {k:Nat} (hk:ba h k):(∃ cs ty,h[k]? = some (.cells cs ty))∨∃ e n f ty,h[k]? = some (.gl e n f ty):=by
 unfold ba d9 at hk
 rw [be]at hk
 split at hk
 ·rename_i cs ty he;exact .inl ⟨cs,ty,he⟩
 ·rename_i e n f ty he;exact .inr ⟨e,n,f,ty,he⟩
 ·cases hk
theorem dM {k:Nat} {cs:List V} {ty:TypeId} (hk:h[k]? = some (.cells cs ty)):ba h k:=by
 unfold ba d9;rw[be,hk]
theorem fY {k e n:Nat} {f:aL} {ty:TypeId} (hk:h[k]? = some (.gl e n f ty)):ba h k:=by
 unfold ba d9;rw[be,hk]
theorem dw {k:Nat} {o:O} (hn:ν.sub ν') (hd:o ≠ .dead) (hl:∀ b az ty,lh[b]? = some (.cells az ty)->(∃ c e,ν k=some (some (b,c,e)))->lh'[b]? = some (.cells az ty)) (hb:El w0 ν nV nS lh k o):El w0 ν' nV nS lh' k o:=by
 cases o with
 | cells cs ty =>
   obtain ⟨b,c,e,az,h1,h2,h3⟩:=hb
   exact ⟨b,c,e,az,hn.1 _ _ h1,hl _ _ _ h2 ⟨c,e,h1⟩,Ep hn _ _ h3⟩
 | gl esz n f ty =>
   rcases hb with ⟨h1,h2⟩|⟨b,c,az,h1,h2,h3,h4,h5⟩
   ·exact .inl ⟨hn.1 _ _ h1,h2⟩
   ·exact .inr ⟨b,c,az,hn.1 _ _ h1,hl _ _ _ h2 ⟨c,esz,h1⟩,h3,h4,fun i hi=>⟨(h5 i hi).1,Ep hn _ _ (h5 i hi).2⟩⟩
 |dead=>exact(hd rfl).elim
 |hid=>trivial
def xT (ν:Nu) (p:Nat) (x:Option (Nat×Nat×Nat)):Nu:=⟨fun k=>if k=p then some x else ν k,ν.z⟩
theorem fq (ν:Nu) (p:Nat) (x:Option (Nat×Nat×Nat)) (k:Nat):xT ν p x k=if k=p then some x else ν k:=rfl
theorem jF {p:Nat} {x:Option (Nat×Nat×Nat)} (hp:ν p=none):ν.sub (xT ν p x):=⟨fun k y hk=>by
 rw [fq]
 have:k≠p:=fun e=>by subst e;rw[hp]at hk;cases hk
 rw [aaT this];exact hk,lA _⟩
theorem fw (ν:Nu) (p:Nat) (x:Option (Nat×Nat×Nat)):xT ν p x p=some x:=by rw[fq,aby rfl]
theorem lE {o:Option ao} (h:isCells o=false) (az:List ak) (ty:TypeId):o≠some (.cells az ty):=fun e=>by subst e;cases h
theorem aas {z lh:List ao} (h:uh z lh) {b:Nat} (hb:isCells lh[b]? = false):isCells z[b]? = false:=by
 cases hz:z[b]? with
 |none=>rfl
 | some o =>
   cases o with
   |dead=>rfl
   |hid=>rfl
   |cells az ty=>rw[h b az ty hz]at hb;cases hb
theorem HR.put (hh:HR w0 ν nV nS h lh) {p b c e:Nat} {o:O} {az:List ak} {ty:TypeId} (hp:ν p=none) (hpl:p<h'.length)
 (ho:h'[p]? = some o) (hoth:∀ k,k ≠ p->h'[k]? = h[k]?) (hlb:lh'[b]? = some (.cells az ty)) (hlo:∀ j,j ≠ b->lh'[j]? = lh[j]?) (hfree:isCells lh[b]? = false)
 (hlen:lh.length<=lh'.length) (hdead:∀ k,h[k]? = some .dead->k≠p->nS+(k-nV)≠b) (hnd:o≠.dead)
 (hbr:El w0 (xT ν p (some (b,c,e))) nV nS lh' p o):HR w0 (xT ν p (some (b,c,e))) nV nS h' lh'/\ν.sub (xT ν p (some (b,c,e))):=by
 have hs:=jF (x:=some (b,c,e)) hp
 have hlive:∀ k,k≠p->ba h' k->ba h k:=fun k hk hl=>by unfold ba d9 at *;rw[be]at *;rw[hoth k hk]at hl;exact hl
 have hcell:∀ k x,ba h k->ν k=some (some x)->x.1≠b:=fun k x hl hx e=>by
  subst e
  rcases ft hl with ⟨cs,t,hk⟩|⟨_,_,_,_,hk⟩
  ·obtain⟨b',c',e',as',h1,h2,_⟩:=hh.blk k _ hk
   rw [hx]at h1;cases h1;rw[h2]at hfree;cases hfree
  ·rcases hh.blk k _ hk with ⟨h1,_⟩|⟨b',c',as',h1,h2,_⟩
   ·rw[hx]at h1;cases h1
   ·rw[hx]at h1;cases h1;rw[h2]at hfree;cases hfree
 have hzb:=aas hh.zl hfree
 refine ⟨⟨fun k o' hk=>?_,fun k k' x x' h1 h2 h3 h4 h5=>?_,fun k hk=>?_,fun k x hk=>?_,fun j as' ty' hj=>?_,fun k x hk hx=>?_⟩,hs⟩
 ·by_cases e1:k=p
  ·subst e1;rw[ho]at hk;cases hk;exact hbr
  ·rw [hoth k e1]at hk
   by_cases hd:o'=.dead
   ·subst hd
    obtain ⟨g1,g2,g3⟩:=hh.blk k _ hk
    exact ⟨by rw[fq,aaT e1];exact g1,g2,by rw[hlo _ (hdead k hk e1)];exact g3⟩
   ·refine dw hs hd (fun b' as' ty' g1 _=>?_) (hh.blk k _ hk)
    rw [hlo b' (fun e2=>by subst e2;rw[g1]at hfree;cases hfree)];exact g1
 ·rw [fq]at h3 h4
  by_cases e1:k=p<;>by_cases e2:k'=p
  ·rw[e1,e2]
  ·rw[aby e1]at h3;rw[aaT e2]at h4;cases h3
   exact absurd h5.symm (hcell k' x' (hlive k' e2 h2) h4)
  ·rw[aaT e1]at h3;rw[aby e2]at h4;cases h4
   exact absurd h5 (hcell k x (hlive k e1 h1) h3)
  ·rw[aaT e1]at h3;rw[aaT e2]at h4
   exact hh.inj k k' x x' (hlive k e1 h1) (hlive k' e2 h2) h3 h4 h5
 ·have e1:k≠p:=fun e1=>by subst e1;omega
  rw [fq,aaT e1]
  apply hh.dom
  have:=hoth k e1
  rw [abm hk]at this
  exact List.getElem?_eq_none_iff.1 this.symm
 ·rw[fq]at hk
  split at hk
  ·cases hk;exact(List.getElem?_eq_some_iff.1 hlb).1
  ·exact ahs (hh.rng k x hk) hlen
 ·have hj':ν.z[j]? = some (.cells as' ty'):=hj
  rw [hlo j fun e=>by rw[e]at hj';exact lE hzb _ _ hj']
  exact hh.zl j as' ty' hj'
 ·rw[fq]at hx
  by_cases e1:k=p
  ·rw[aby e1]at hx;cases hx;exact hzb
  ·rw[aaT e1]at hx;exact hh.zn k x (hlive k e1 hk) hx
def plR (nV nS:Nat) (pl plA:Option Nat):Prop:=(pl=none/\plA=none)∨∃ p,pl=some p/\plA=some (nS+(p-nV))
theorem Dy (hh:HR w0 ν nV nS h lh) {pl plA:Option Nat} (hp:plR nV nS pl plA) {o:O} {az:List ak} {ty:TypeId} {c e:Nat} {K:Nat->List O->T α} {KA:Nat->List ao->Prop} (hnd:o≠.dead)
 (hb:∀ p b lh',lh'[b]? = some (.cells az ty)->ν p=none->El w0 (xT ν p (some (b,c,e))) nV nS lh' p o)
 (hs:bu LP (fp pl h o K) Q) (hK:∀ p b h' lh',((pl=none/\plA=none)∨(pl=some p/\plA=some b/\h'=h.set p o/\lh'=lh.set b (.cells az ty)/\p<h.length/\b<lh.length))->ν p=none->HR w0 (xT ν p (some (b,c,e))) nV nS h' lh'->bu LP (K p h') Q->KA b lh'):place plA lh (.cells az ty) KA:=by
 rcases hp with ⟨rfl,rfl⟩|⟨p,rfl,rfl⟩
 ·simp only [fp]at hs
  rw [bG,xk]at hs
  have hp:=hh.dom h.length (aaS _)
  obtain ⟨h1,_⟩:=hh.put (h':=h++[o]) (lh':=lh++[.cells az ty]) (p:=h.length) (b:=lh.length) (c:=c) (e:=e) (o:=o) (az:=az) (ty:=ty) hp (by simp) (by simp)
   (fun k hk=>by
     rw [acF];split
     ·rfl
     ·rw[abm (by simp;omega),abm (by omega)])
   (by simp)
   (fun k hk=>by
     rw [acF];split
     ·rfl
     ·rw[abm (by simp;omega),abm (by omega)])
   (by simp[isCells]) (by simp)
   (fun k hk _=>by obtain⟨_,_,g3⟩:=hh.blk k _ hk;have:=(List.getElem?_eq_some_iff.1 g3).1;omega)
   hnd (hb _ _ _ (by simp) hp)
  exact hK _ _ _ _ (.inl ⟨rfl,rfl⟩) hp h1 hs
 ·simp only [fp,be]at hs
  split at hs
  ·rename_i hd
   rw [gK]at hs
   obtain ⟨g1,g2,g3⟩:=hh.blk p _ hd
   refine ⟨g3,?_⟩
   have hlt:=(List.getElem?_eq_some_iff.1 hd).1
   have hlt':=(List.getElem?_eq_some_iff.1 g3).1
   obtain ⟨h1,_⟩:=hh.put (h':=h.set p o) (lh':=lh.set (nS+(p-nV)) (.cells az ty)) (p:=p) (b:=nS+(p-nV)) (c:=c) (e:=e) (o:=o) (az:=az) (ty:=ty) g1 (by simpa using hlt) (by simp[hlt])
    (fun k hk=>by simp[hk.symm]) (by simp[hlt']) (fun k hk=>by simp[hk.symm]) (by rw[g3];rfl) (by simp)
    (fun k hk hne e1=>by obtain⟨_,k2,_⟩:=hh.blk k _ hk;omega)
    hnd (hb _ _ _ (by simp[hlt']) g1)
   exact hK _ _ _ _ (.inr ⟨rfl,rfl,rfl,rfl,hlt,hlt'⟩) g1 h1 hs
  ·exact hs.elim
theorem HR.set (hh:HR w0 ν nV nS h lh) {k b c e:Nat} {o:O} {az:List ak} {ty:TypeId} (hk:ba h k) (hν:ν k=some (some (b,c,e))) (hc:isCells lh[b]? = true) (hlo:d9 [o] 0=true)
 (hbr:El w0 ν nV nS (lh.set b (.cells az ty)) k o):HR w0 ν nV nS (h.set k o) (lh.set b (.cells az ty)):=by
 have hkl:k<h.length:=by
  rcases ft hk with ⟨_,_,g⟩|⟨_,_,_,_,g⟩<;>exact(List.getElem?_eq_some_iff.1 g).1
 have hlive:∀ j,ba (h.set k o) j->ba h j:=fun j hj=>by
  by_cases e1:j=k
  ·subst e1;exact hk
  ·unfold ba d9 at *;rw[be]at *;rw[aaZ,aaT (Ne.symm e1)]at hj;exact hj
 refine ⟨fun j o' hj=>?_,fun j j' x x' h1 h2=>hh.inj j j' x x' (hlive j h1) (hlive j' h2),fun j hj=>hh.dom j (by simpa using hj),fun j x hx=>by simpa using hh.rng j x hx,fun j as' ty' hj=>?_,fun j x hj hx=>hh.zn j x (hlive j hj) hx⟩
 case refine_2 =>
  rw [aaZ,aaT fun e2=>?_]
  ·exact hh.zl j as' ty' hj
  ·subst e2;exact lE (hh.zn k _ hk hν) _ _ hj
 by_cases e1:j=k
 ·subst e1
  rw [aaZ,aby rfl,aby hkl]at hj;cases hj;exact hbr
 ·rw [aaZ,aaT (Ne.symm e1)]at hj
  by_cases hd:o'=.dead
  ·subst hd
   obtain ⟨g1,g2,g3⟩:=hh.blk j _ hj
   refine ⟨g1,g2,?_⟩
   rw [aaZ,aaT (fun e2=>by rw[← e2]at g3;rw[g3]at hc;cases hc)];exact g3
  ·by_cases hl:o'=.hid
   ·subst hl;trivial
   ·refine dw (Nu.sub_refl ν) hd (fun b' as' ty' g1 g2=>?_) (hh.blk j _ hj)
    rw [aaZ,aaT]
    ·exact g1
    ·intro e2
     subst e2
     obtain ⟨c',e',g3⟩:=g2
     have hlj:ba h j:=by
      unfold ba d9;rw[be,hj]
      cases o'<;>first|rfl|exact(hd rfl).elim|exact(hl rfl).elim
     exact e1 (hh.inj j k _ _ hlj hk g3 hν rfl)
theorem HR.hide1 (hh:HR w0 ν nV nS h lh) (k:Nat):HR w0 ν nV nS (h.set k .hid) lh:=by
 have hlive:∀ j,ba (h.set k .hid) j->ba h j:=fun j hj=>by
  by_cases e1:k=j
  ·subst e1
   exfalso
   rcases ft hj with ⟨_,_,g⟩|⟨_,_,_,_,g⟩<;>(rw[aaZ,aby rfl]at g;split at g<;>cases g)
  ·unfold ba d9 at *;rw[be]at *
   rw [aaZ,aaT e1]at hj;exact hj
 refine ⟨fun j o hj=>?_,fun j j' x x' h1 h2=>hh.inj j j' x x' (hlive j h1) (hlive j' h2),fun j hj=>hh.dom j (by simpa using hj),hh.rng,hh.zl,fun j x hj hx=>hh.zn j x (hlive j hj) hx⟩
 rw [aaZ]at hj
 split at hj
 ·split at hj
  ·cases hj;trivial
  ·cases hj
 ·exact hh.blk j o hj
end
section
variable {w0:World} {ν ν':Nu} {nV nS N:Nat} {h h':List O} {lh lh':List ao} {α:Type} {LP:eu} {Q:α->Prop} {e:bD} {sl:List ak} {ctx:Bool}
theorem zT (a:Addr) (i j:Nat):(a.add i).add j=a.add (i+j):=by
 unfold Addr.add
 by_cases hi:i=0
 ·subst hi;simp
 ·by_cases hj:j=0
  ·subst hj;simp
  ·have:¬ (i+j=0):=by omega
   simp [hi,hj,this,aoY]
theorem yat (p:gR) (i j:Nat):(p.add i).add j=p.add (i+j):=by
 cases p with
 |l k off=>simp[gR.add,aoY]
 |g a=>simp[gR.add,zT]
theorem xj {a:Addr} {n i m:Nat} {az:List ak} (hg:fG w0 a 0 n=some az) (hle:i+m<=n):fG w0 (a.add i) 0 m=some ((az.drop i).take m):=by
 obtain ⟨vs,rfl,hl,hc⟩:=d7 n 0 az hg
 have:=jG (w:=w0) (a:=a.add i) ((vs.drop i).take m) 0 (fun j v hv=>by
  rw [afz]at hv
  split at hv
  ·rw[ahB]at hv
   rw [zT]
   have:=hc (i+j) v hv
   simpa using this
  ·cases hv)
 rw [show((vs.drop i).take m).length=m by simp;omega]at this
 rw [this];simp
theorem HZ {z:List ao} {p:gR} {n i m:Nat} {az:List ak} (hl:lds w0 z p n=some az) (hle:i+m<=n) (hz:uh z lh):lds w0 lh (p.add i) m=some ((az.drop i).take m):=by
 cases p with
 |g a=>exact xj hl hle
 | l k off =>
   have h2:=wL hz hl
   simp only [lds,gR.add]at h2 ⊢
   split at h2
   ·rename_i cs ty hk
    split at h2
    ·rename_i hlen
     cases h2
     rw [aby (by omega),apM,ajT,alF,aoa (by omega)]
    ·cases h2
   ·cases h2
theorem rl {p:gR} {n:Nat} {az:List ak} (hl:lds w0 lh p n=some az):az.length=n:=by
 cases p with
 | l k off =>
   simp only [lds]at hl
   split at hl
   ·split at hl
    ·cases hl;simp;omega
    ·cases hl
   ·cases hl
 | g a =>
   obtain ⟨vs,rfl,h2,_⟩:=d7 n 0 az hl
   simpa using h2
theorem Lg {z:List ao} {p:gR} {n:Nat} {az:List ak} {x:ak} (hl:lds w0 z p n=some az) (hx:az[0]? = some x) (hz:uh z lh):ld w0 lh p=some x:=by
 cases p with
 | g a =>
   obtain ⟨vs,rfl,h2,h3⟩:=d7 n 0 az hl
   rw [List.getElem?_map]at hx
   cases hv:vs[0]? with
   |none=>rw[hv]at hx;cases hx
   | some v =>
     rw [hv]at hx;cases hx
     have:=h3 0 v hv
     simp [Addr.add]at this
     simp [ld,this]
 | l k off =>
   have h2:=wL hz hl
   simp only [lds]at h2
   split at h2
   ·rename_i cs ty hk
    split at h2
    ·cases h2
     simp only [ld,hk]
     rw [afz]at hx
     split at hx
     ·rw[ahB]at hx;exact hx
     ·cases hx
    ·cases h2
   ·cases h2
theorem En {v:V} {a:ak} {K:V->T α} (hc:ctx=true) (hv:vr w0 lh ν v a) (hs:bu LP (gV ctx v K) Q):∃ u,vr w0 lh ν u a/\bu LP (K u) Q:=by
 unfold gV at hs
 split at hs
 ·rename_i b u
  simp only [bu]at hs
  simp only [vr]at hv
  subst hc
  exact ⟨u,hv.1 (hs.1 rfl),hs.2⟩
 ·exact⟨_,hv,hs⟩
theorem Dd {v:V} {a:ak} {K:V->T α} (hc:ctx=true) (hv:vr w0 lh ν v a) (hs:bu LP (gV ctx v K) Q):∃ u,vr w0 lh ν u a/\bu LP (K u) Q/\∀ h l,jn h v=some l->u=v:=by
 unfold gV at hs
 split at hs
 ·rename_i b u
  simp only [bu]at hs
  simp only [vr]at hv
  subst hc
  exact ⟨u,hv.1 (hs.1 rfl),hs.2,fun h l hn=>by simp[jn]at hn⟩
 ·exact⟨_,hv,hs,fun _ _ _=>rfl⟩
theorem yab {x:fi} {K:V->T α} (hsl:fL w0 ν N e sl) (hc:ctx=true) (hs:bu LP (gV ctx (dj e x) K) Q):∃ u,vr w0 ν.z ν u (arg sl x)/\bu LP (K u) Q:=En hc (hsl.arg x) hs
theorem kE (hsl:fL w0 ν N e sl) (hc:ctx=true):∀ {xs:List fi} {K:List V->T α},bu LP (ub ctx e xs K) Q->∃ us,bg w0 ν.z ν us (xs.map (arg sl))/\bu LP (K us) Q
 |[],K,hs=>⟨[],by simp[bg],hs⟩
 | x::xs,K,hs=>by
   simp only [ub]at hs
   obtain ⟨u,h1,h2⟩:=yab hsl hc hs
   obtain ⟨us,h3,h4⟩:=kE hsl hc h2
   exact ⟨u::us,by simp only[ahC,bg];exact⟨_,_,rfl,h1,h3⟩,h4⟩
def vro (w0:World) (ν:Nu):Option V->Option ak->Prop
 |none,a=>a=none
 |some v,a=>∃ x,a=some x/\vr w0 ν.z ν v x
theorem kz (hsl:fL w0 ν N e sl) (hc:ctx=true) {x:Option fi} {K:Option V->T α} (hs:bu LP (tZ ctx e x K) Q):∃ u,vro w0 ν u (x.map (arg sl))/\bu LP (K u) Q:=by
 cases x with
 |none=>exact⟨none,rfl,hs⟩
 | some x =>
   simp only [tZ]at hs
   obtain ⟨u,h1,h2⟩:=yab hsl hc hs
   exact ⟨some u,⟨_,rfl,h1⟩,h2⟩
theorem eY {p:Prop} [Decidable p] {x:T α} (hc:ctx=true) (hs:bu LP (xK ctx p x) Q):p/\bu LP x Q:=by
 simp only [xK,bu]at hs;subst hc;exact⟨by simpa using hs.1 rfl,hs.2⟩
theorem dV {x:Option V} {xa:Option ak} {y d:Nat} {K:Nat->T α} {KA:Nat->Prop} (hc:ctx=true) (hx:vro w0 ν x xa) (hs:bu LP (mj ctx x y d K) Q) (hK:∀ n,(x=none->n=d)->(x≠none->n<=y)->bu LP (K n) Q->KA n):bnd xa y d KA:=by
 cases x with
 | none =>
   simp only [vro]at hx;subst hx
   exact hK d (fun _=>rfl) (fun h=>(h rfl).elim) hs
 | some v =>
   simp only [vro]at hx
   obtain ⟨a,rfl,hv⟩:=hx
   cases v<;>simp only[mj]at hs<;>try exact hs.elim
   simp only [vr]at hv;subst hv
   obtain ⟨⟨h1,h2⟩,h3⟩:=eY hc hs
   exact ⟨h1,h2,hK _ (fun h=>by cases h) (fun _=>by omega) h3⟩
theorem sZ {x:Option V} {xa:Option ak} {y y' d:Nat} {KA:Nat->Prop} (hy:y<=y') (hb:bnd xa y d KA):bnd xa y' d KA:=by
 unfold bnd at *
 split at hb
 ·exact hb
 ·exact⟨hb.1,by omega,hb.2.2⟩
 ·exact hb.elim
theorem td (hsl:fL w0 ν N e sl) (hc:ctx=true):∀ {ps:List (Nat×Nat×fi)} {z:List V} {za:List ak} {K:List V->T α} {KA:List ak->Prop},bg w0 ν.z ν z za->bu LP (qg ctx e ps z K) Q ->
 (∀ cs az,bg w0 ν.z ν cs az->bu LP (K cs) Q->KA az)->parts sl ps za KA
 |[],z,za,K,KA,hz,hs,hK=>hK z za hz hs
 | (off,n,x)::ps,z,za,K,KA,hz,hs,hK=>by
   simp only [qg]at hs
   obtain ⟨v,h1,h2⟩:=yab hsl hc hs
   cases hf:(v.flat&&Nat.beq (bI v.cells) n) with
   |false=>rw[hf]at h2;exact h2.elim
   | true =>
     rw [hf]at h2
     simp only [cond_true]at h2
     simp only [aaw]at hf
     obtain ⟨g1,g2⟩:=wg h1 hf.1
     have g3:=aax hf.2
     rw [bG]at g3
     split at h2
     ·rename_i z' hz'
      have hl:=o4 hz'
      have:=bC g2
      have hzl:=bC hz
      exact ⟨g1,by omega,by omega,td hsl hc (w7 hz g2 hz') h2 hK⟩
     ·exact h2.elim
def su (w0:World) (S:FuncId->bH) (LP:eu) (md:Bool) (cf:CF α):Prop:=∀ (f:FuncId) (vs:List V) (h:List O) (K:V->List O->T α) (Q:α->Prop) (ν:Nu) (nV nS:Nat) (args:List ak) (lh:List ao) (KA:ak->List ao->Prop),
 bg w0 ν.z ν vs args->HR w0 ν nV nS h lh->bu LP (cf f vs h K) Q->(∀ v h' ν' a lh',(md=true->ν'=ν/\h'=h/\lh'=lh)->ν.sub ν'->HR w0 ν' nV nS h' lh'->vr w0 ν'.z ν' v a->bu LP (K v h') Q->KA a lh')->S f w0 args lh KA
structure ya (ν ν':Nu) (wn:List Nat) (pl plA:Option Nat) (h h':List O) (lh lh':List ao):Prop where
 len:lh'.length=lh.length
 chg:∀ j,plA ≠ some j->(∀ k x,k ∈ wn->ν k=some (some x)->x.1 ≠ j)->lh'[j]? = lh[j]?
 nw:∀ k x,ν' k=some x->ν k=some x∨(pl=some k/\∀ y,x=some y->(plA=some y.1∨∃ k0 z,k0∈wn/\ν k0=some (some z)/\z.1=y.1))
 hlen:h'.length=h.length
 liv:∀ k,ba h' k->ba h k∨pl=some k
 zz:ν'.z=ν.z
theorem ya.refl (ν:Nu) (wn:List Nat) (pl plA:Option Nat) (h:List O) (lh:List ao):ya ν ν wn pl plA h h lh lh:=⟨rfl,fun _ _ _=>rfl,fun _ _ h=>.inl h,rfl,fun _ h=>.inl h,rfl⟩
theorem yaF (hh:HR w0 ν nV nS h lh) {v u:V} {a:ak} (hv:vr w0 ν.z ν v a) (hl:ldV h v=some u) (hpe:∀ k i j,v=.pe k i j->∀ e n f ty,h[k]? = some (.gl e n f ty)->i<n):∃ p x,a=.ptr (some p)/\ld w0 lh p=some x/\vr w0 ν.z ν u x:=by
 unfold ldV at hl
 split at hl
 ·rename_i k off
  rw [be]at hl
  split at hl
  ·rename_i cs ty hk
   rw [be]at hl
   obtain ⟨b,c,e,az,h1,h2,h3⟩:=hh.blk k _ hk
   simp only [vr]at hv
   obtain ⟨b',c',e',h4,rfl⟩:=hv
   rw [h1]at h4
   obtain ⟨rfl,rfl,rfl⟩:_=b'/\_=c'/\_=e':=by simpa using h4
   obtain ⟨x,h5,h6⟩:=mN h3 hl
   exact ⟨_,x,rfl,by simp only[ld,h2];exact h5,h6⟩
  ·cases hl
 ·rename_i k i j
  rw [be]at hl
  split at hl
  ·rename_i e n f ty hk
   rw [be]at hl
   have hi:=hpe k i j rfl _ _ _ _ hk
   simp only [vr]at hv
   obtain ⟨b',c',e',h4,rfl⟩:=hv
   rcases hh.blk k _ hk with ⟨h1,h2⟩|⟨b,c,az,h1,h2,h3,hn,h5⟩
   ·omega
   ·rw [h1]at h4
    obtain ⟨rfl,rfl,rfl⟩:_=b'/\_=c'/\_=e':=by simpa using h4
    obtain ⟨x,h6,h7⟩:=mN (h5 i hi).2 hl
    refine ⟨_,x,rfl,?_,h7⟩
    rw [afz]at h6
    split at h6
    ·rw[ahB]at h6
     simp only [ld,h2];exact h6
    ·cases h6
  ·cases hl
 ·rename_i cs
  rw [be]at hl
  simp only [vr]at hv
  obtain ⟨p,az,rfl,_,h2,h3,_⟩:=hv
  obtain ⟨x,h4,h5⟩:=mN h3 hl
  exact ⟨p,x,rfl,Lg h2 h4 hh.zl,I9 (Nu.nil_sub ν) _ _ h5⟩
 ·cases hl
theorem JX (hh:HR w0 ν nV nS h lh) {v:V} {m:Nat} {us:List V} {a:ak} (hv:vr w0 ν.z ν v a) (hl:Wv h m v=some us) (hpe:∀ k i j,v=.pe k i j->∀ e n f ty,h[k]? = some (.gl e n f ty)->i<n):∃ p xs,a=.ptr (some p)/\lds w0 lh p m=some xs/\bg w0 ν.z ν us xs:=by
 unfold Wv at hl
 split at hl
 ·rename_i k off
  rw [be]at hl
  split at hl
  ·rename_i cs ty hk
   obtain ⟨g1,rfl⟩:=rM hl
   obtain ⟨b,c,e,az,h1,h2,h3⟩:=hh.blk k _ hk
   simp only [vr]at hv
   obtain ⟨b',c',e',h4,rfl⟩:=hv
   rw [h1]at h4
   obtain ⟨rfl,rfl,rfl⟩:_=b'/\_=c'/\_=e':=by simpa using h4
   refine ⟨_,_,rfl,?_,gN m (fN off h3)⟩
   simp only [lds,h2]
   rw [aby (by have:=bC h3;omega)]
  ·cases hl
 ·rename_i k i j
  rw [be]at hl
  split at hl
  ·rename_i e n f ty hk
   obtain ⟨g1,rfl⟩:=rM hl
   have hi:=hpe k i j rfl _ _ _ _ hk
   simp only [vr]at hv
   obtain ⟨b',c',e',h4,rfl⟩:=hv
   rcases hh.blk k _ hk with ⟨h1,h2⟩|⟨b,c,az,h1,h2,h3,hn,h5⟩
   ·omega
   ·rw[h1]at h4
    obtain ⟨rfl,rfl,rfl⟩:_=b'/\_=c'/\_=e':=by simpa using h4
    obtain ⟨ho,hvs⟩:=h5 i hi
    have hlen:=bC hvs
    unfold lX at ho
    simp only [aaw]at ho
    have h8:=aax ho.1
    rw [bG]at h8
    have hle:i*e+e<=c*e:=by rw[← adm];exact abt e (by omega)
    refine ⟨_,_,rfl,?_,gN m (fN j hvs)⟩
    simp only [lds,h2]
    rw [aby (by omega),apM,ajT,alF,aoa (by omega)]
  ·cases hl
 ·rename_i cs
  obtain ⟨g1,rfl⟩:=xg hl
  simp only [vr]at hv
  obtain ⟨p,az,rfl,_,h2,h3,_⟩:=hv
  refine ⟨p,az.take m,rfl,?_,gN m (jW (Nu.nil_sub ν) _ _ h3)⟩
  have:=HZ (i:=0) (m:=m) h2 (by omega) hh.zl
  have e0:p.add 0=p:=by cases p<;>simp[gR.add,Addr.add]
  rw [e0]at this
  simpa using this
 ·cases hl
theorem uY {v:V} {x:T α} (hc:ctx=true) (hs:bu LP (XP ctx h v x) Q):(∀ k i j,v=.pe k i j->∀ e n f ty,h[k]? = some (.gl e n f ty)->i<n)/\bu LP x Q:=by
 unfold XP at hs
 split at hs
 ·rename_i k i j
  rw [be]at hs
  split at hs
  ·rename_i e n f ty hk
   obtain ⟨h1,h2⟩:=eY hc hs
   exact ⟨fun k' i' j' he e' n' f' ty' hk'=>by cases he;rw[hk]at hk';cases hk';exact h1,h2⟩
  ·exact hs.elim
 ·rename_i hne
  exact ⟨fun k i j he=>(hne k i j he).elim,hs⟩
theorem wi:∀ (us az:List ak) (off t:Nat),off+us.length<=az.length->(wr az off us)[t]? = if off<=t/\t<off+us.length then us[t-off]? else az[t]?
 | [],az,off,t,h=>by
   simp only [wr]
   rw [aaT (by simp only[ajG];omega)]
 | u :: us,az,off,t,h=>by
   simp only [wr]
   simp only [adM]at h
   rw [wi us _ _ _ (by simp;omega)]
   by_cases h1:off+1<=t/\t<off+1+us.length
   ·rw[aby h1,aby ⟨by omega,by simp;omega⟩,show t-off=(t-(off+1))+1 by omega];simp
   ·rw [aaT h1]
    by_cases h2:t=off
    ·subst h2
     rw [aaZ,aby rfl,aby (by omega),aby ⟨aaS _,by simp⟩];simp
    ·rw[aaZ,aaT (Ne.symm h2),aaT (by simp;omega)]
theorem CG {az us:List ak} {e i i' j:Nat} (hne:i'≠i) (hj:j+us.length<=e) (hl:i*e+j+us.length<=az.length):((wr az (i*e+j) us).drop (i'*e)).take e=(az.drop (i'*e)).take e:=by
 apply agE
 intro t
 rw [afz,afz]
 split
 ·rename_i ht
  rw [ahB,ahB,wi _ _ _ _ hl,aaT]
  intro ⟨h1,h2⟩
  rcases aqb i' i with h3|h3
  ·have:i'*e+e<=i*e:=by rw[← adm];exact abt e h3
   omega
  ·have:i*e+e<=i'*e:=by rw[← adm];exact abt e (by omega)
   omega
 ·rfl
theorem Gg {az us:List ak} {e i j:Nat} (hj:j+us.length<=e) (hl:i*e+e<=az.length):((wr az (i*e+j) us).drop (i*e)).take e=wr ((az.drop (i*e)).take e) j us:=by
 apply agE
 intro t
 rw [wi _ _ _ _ (by simp;omega),afz]
 split
 ·rename_i ht
  rw [ahB,wi _ _ _ _ (by omega)]
  by_cases h1:j<=t/\t<j+us.length
  ·rw[aby h1,aby (by omega)];congr 1;omega
  ·rw[aaT h1,aaT (by omega),afz,aby ht,ahB]
 ·rename_i ht
  rw [aaT (by omega),afz,aaT ht]
theorem vE:∀ {cs:List V} {off:Nat} {xs r:List V},qv cs off xs=some r->cs.all V.one=true->xs.all V.one=true->r.all V.one=true
 |cs,0,[],r,h,h1,h2=>by simp[qv]at h;subst h;exact h1
 |[],0,x::xs,r,h,h1,h2=>by simp[qv]at h
 | c::cs,0,x::xs,r,h,h1,h2=>by
   simp only [qv]at h
   split at h
   ·rename_i r' hr
    cases h
    simp only [adT,aaw]at h1 h2 ⊢
    exact ⟨h2.1,vE hr h1.2 h2.2⟩
   ·cases h
 |[],off+1,xs,r,h,h1,h2=>by simp[qv]at h
 | c::cs,off+1,xs,r,h,h1,h2=>by
   simp only [qv]at h
   split at h
   ·rename_i r' hr
    cases h
    simp only [adT,aaw]at h1 ⊢
    exact ⟨h1.1,vE hr h1.2 h2⟩
   ·cases h
theorem Fj:∀ (cs:List V) (j:Nat) (xs:List V),j+xs.length<=cs.length->qv cs j xs=some (cs.take j++(xs++cs.drop (j+xs.length)))
 |cs,0,[],_=>by simp[qv]
 |[],0,x::xs,h=>by simp at h
 | c::cs,0,x::xs,h=>by
   simp only [qv]
   rw [Fj cs 0 xs (by simp at h ⊢;omega)]
   simp
 |[],j+1,xs,h=>by simp at h
 | c::cs,j+1,xs,h=>by
   simp only [qv]
   rw [Fj cs j xs (by simp at h;omega)]
   simp [show j+1+xs.length=(j+xs.length)+1 by omega]
theorem Ij (cs:List V) (j:Nat) (xs:List V):∀ (m t k:Nat),(Zb cs j xs t m)[k]? = if k<m then some (cond (Nat.ble j (t+k)&&Nat.blt (t+k) (j+bI xs)) (KF xs (t+k-j)) (KF cs (t+k))) else none
 |0,t,k=>by simp[Zb]
 |m+1,t,0=>by simp[Zb]
 | m+1,t,k+1=>by
   simp only [Zb,acx]
   rw [Ij cs j xs m (t+1) k,show t+1+k=t+(k+1) by omega]
   by_cases h:k<m
   ·rw[aby h,aby (by omega)]
   ·rw[aaT h,aaT (by omega)]
theorem sU {l:List V} {i:Nat} (h:i<l.length):l[i]? = some (KF l i):=by
 unfold KF;rw[be,ach h]
theorem Ou {e:Nat} {cs:List V} (h:cs.length=e) (j:Nat) (xs:List V):wrE e cs j xs=qv cs j xs:=by
 unfold wrE
 rw [bG]
 cases hb:Nat.ble (j+xs.length) e with
 | false =>
   cases hw:qv cs j xs with
   |none=>rfl
   | some r =>
     have:=(o4 hw).1
     rw [adr (by omega)]at hb;cases hb
 | true =>
   have hle:=aaF hb
   rw [Fj cs j xs (by omega)]
   simp only [cond_true,aaB]
   apply agE
   intro k
   rw [Ij,aeb,bG,acF,acF,afz,ahB,arD]
   by_cases h1:k<j
   ·have hb1:Nat.ble j k=false:=by
     cases hq:Nat.ble j k with
     |false=>rfl
     |true=>have:=aaF hq;omega
    rw [aby (by omega),aby (by omega),aby h1,hb1]
    exact (sU (by omega)).symm
   ·have hb1:Nat.ble j k=true:=adr (by omega)
    by_cases h2:k<j+xs.length
    ·have hb2:Nat.blt k (j+xs.length)=true:=adr h2
     rw [aby (by omega),aaT (by omega),aby (by omega),hb1,hb2,show min j cs.length=j by omega]
     exact (sU (by omega)).symm
    ·have hb2:Nat.blt k (j+xs.length)=false:=by
      cases hq:Nat.blt k (j+xs.length) with
      |false=>rfl
      |true=>have:=aaF hq;omega
     have e1:j+xs.length+(k-min j cs.length-xs.length)=k:=by omega
     by_cases h3:k<e
     ·rw[aby h3,aaT (by omega),aaT (by omega),hb1,hb2,e1];exact(sU (by omega)).symm
     ·rw[aaT h3,aaT (by omega),aaT (by omega),e1,abm (by omega)]
theorem Gj {v:V} (h:v.flat=true):v.cells.all V.one=true:=by
 cases v<;>first|exact h|(simp[V.flat,V.cells,V.one]at h ⊢)
theorem P8 (hh:HR w0 ν nV nS h lh) {v:V} {xs:List V} {us:List ak} {a:ak} (hv:vr w0 ν.z ν v a) (hx:bg w0 ν.z ν xs us) (ho:xs.all V.one=true) (hl:Ym h xs v=some h') (hpe:∀ k i j,v=.pe k i j->∀ e n f ty,h[k]? = some (.gl e n f ty)->i<n) :
 ∃ b off cs ty k c e,a=.ptr (some (.l b off))/\lh[b]? = some (.cells cs ty)/\off+us.length<=cs.length/\HR w0 ν nV nS h' (lh.set b (.cells (wr cs off us) ty))/\jn h v=some [k]/\ν k=some (some (b,c,e)):=by
 unfold Ym at hl
 split at hl
 ·rename_i k off
  rw [be]at hl
  split at hl
  ·rename_i cs ty hk
   split at hl
   ·rename_i r hr
    cases hl
    obtain ⟨b,c,e,az,h1,h2,h3⟩:=hh.blk k _ hk
    simp only [vr]at hv
    obtain ⟨b',c',e',h4,rfl⟩:=hv
    rw [h1]at h4
    obtain ⟨rfl,rfl,rfl⟩:_=b'/\_=c'/\_=e':=by simpa using h4
    have hlv:=dM hk
    have hlt:=(List.getElem?_eq_some_iff.1 h2).1
    refine ⟨b,off,az,ty,k,c,e,rfl,h2,by have:=o4 hr;have:=bC h3;have:=bC hx;omega,?_,?_,h1⟩
    ·rw[gK]
     refine hh.set hlv h1 (by rw[h2];rfl) rfl ⟨b,c,e,wr az off us,h1,by simp[hlt],w7 h3 hx hr⟩
    ·simp only[jn];unfold ba at hlv;rw[hlv];rfl
   ·cases hl
  ·cases hl
 ·rename_i k i j
  rw [be]at hl
  split at hl
  ·rename_i e n f ty hk
   cases hbl:Nat.ble (j+bI xs) e with
   |false=>rw[hbl]at hl;cases hl
   | true =>
     rw [hbl]at hl
     cases hl
     have hr:wrE e (f i) j xs=some (Zb (f i) j xs 0 e):=by unfold wrE;rw[hbl];rfl
     revert hr
     generalize hgr:Zb (f i) j xs 0 e=r
     intro hr
     have hi:=hpe k i j rfl _ _ _ _ hk
     simp only [vr]at hv
     obtain ⟨b',c',e',h4,rfl⟩:=hv
     have hlv:=fY hk
     rcases hh.blk k _ hk with ⟨h1,h2⟩|⟨b,c,az,h1,h2,h3,hn,h5⟩
     ·omega
     ·rw [h1]at h4
      obtain ⟨rfl,rfl,rfl⟩:_=b'/\_=c'/\_=e':=by simpa using h4
      have hlt:=(List.getElem?_eq_some_iff.1 h2).1
      obtain ⟨hok,hvs⟩:=h5 i hi
      have hlx:=bC hx
      have hlen:=bC hvs
      unfold lX at hok
      simp only [aaw]at hok
      have h8:=aax hok.1
      rw [bG]at h8
      rw [Ou h8]at hr
      have hwl:=o4 hr
      have hle:i*e+e<=c*e:=by rw[← adm];exact abt e (by omega)
      refine ⟨b,i*e+j,az,ty,k,c,e,rfl,h2,by omega,?_,?_,h1⟩
      ·rw [gK]
       refine hh.set hlv h1 (by rw[h2];rfl) rfl (.inr ⟨b,c,wr az (i*e+j) us,h1,by simp[hlt],by rw[oW];exact h3,hn,fun i' hi'=>?_⟩)
       by_cases he:i'=i
       ·subst he
        simp only [Xq,apl,cond_true,hgr]
        refine ⟨?_,?_⟩
        ·unfold lX
         simp only [aaw]
         exact ⟨by rw[bG,hwl.2,h8];simp,vE hr hok.2 ho⟩
        ·rw[Gg (by omega) (by omega)]
         exact w7 hvs hx hr
       ·have:Nat.beq i' i=false:=by
         cases hb:Nat.beq i' i with
         |false=>rfl
         |true=>exact(he (aax hb)).elim
        simp only [Xq,this,cond_false]
        refine ⟨(h5 i' hi').1,?_⟩
        rw [CG he (by omega) (by omega)]
        exact (h5 i' hi').2
      ·simp only[jn];unfold ba at hlv;rw[hlv];rfl
  ·cases hl
 ·cases hl
end
section
variable {w0:World} {ν ν':Nu} {nV nS N:Nat} {h h':List O} {lh lh':List ao} {α:Type} {LP:eu} {Q:α->Prop} {e:bD} {sl:List ak} {ctx:Bool}
theorem cq:∀ {n:Nat} {p:Nat->Bool},en n p=true->∀ i,i<n->p i=true
 |0,p,_,i,hi=>by omega
 | n+1,p,hp,i,hi=>by
   simp only [en,aaw]at hp
   by_cases e:i=n
   ·subst e;exact hp.2
   ·exact cq hp.1 i (by omega)
theorem ga:∀ {n:Nat} {p:Nat->Bool},(∀ i,i<n->p i=true)->en n p=true
 |0,p,_=>rfl
 |n+1,p,hp=>by simp only[en,aaw];exact⟨ga fun i hi=>hp i (by omega),hp n (by omega)⟩
theorem tu {a:Addr}:∀ (n i:Nat),(∀ t,t<n->∃ v,w0.cell? (a.add (i+t))=some v)->∃ az,fG w0 a i n=some az
 |0,i,_=>⟨[],rfl⟩
 | n+1,i,hc=>by
   obtain ⟨v,hv⟩:=hc 0 (by omega)
   obtain ⟨az,has⟩:=tu n (i+1) (fun t ht=>by have:=hc (t+1) (by omega);rw[show i+1+t=i+(t+1) by omega];exact this)
   exact ⟨bz v::az,by simp only[fG,has];simp only[ajZ]at hv;rw[hv]⟩
theorem yah {esz:Nat} {l:List V} (ho:lX esz l=true):l.length=esz/\l.all V.one=true:=by
 unfold lX at ho
 simp only [aaw]at ho
 exact ⟨by rw[← bG];exact aax ho.1,ho.2⟩
theorem GG {esz:Nat} {l:List V} (h1:l.length=esz) (h2:l.all V.one=true):lX esz l=true:=by
 unfold lX;rw[bG,h1,h2];simp
theorem iH {esz:Nat}:∀ {n:Nat} {az:List ak},az.length=n*esz->(∀ i,i<n->((az.drop (i*esz)).take esz).all ak.one=true)->az.all ak.one=true
 |0,az,hl,_=>by simp at hl;subst hl;rfl
 | n+1,az,hl,hc=>by
   rw [← aqd esz az,List.all_append,aaw]
   refine ⟨by have:=hc 0 (by omega);simpa using this,iH (esz:=esz) (n:=n) (by simp[hl,adm]) (fun i hi=>?_)⟩
   have:=hc (i+1) (by omega)
   rw [ajT,show esz+i*esz=(i+1)*esz by rw[adm];omega]
   exact this
theorem mH {az:List ak} {n esz i:Nat} (hi:i<n):((az.take (n*esz)).drop (i*esz)).take esz=(az.drop (i*esz)).take esz:=by
 have:i*esz+esz<=n*esz:=by rw[← adm];exact abt esz hi
 rw [apM,alF,aoa (by omega)]
theorem Ld {α:Type} {az:List α} {n esz i:Nat} (hl:az.length=n*esz) (hi:i<n):((az.drop (i*esz)).take esz).length=esz:=by
 have:i*esz+esz<=n*esz:=by rw[← adm];exact abt esz hi
 simp;omega
theorem HX {α:Type} {p:α->Bool} {l:List α} (a b:Nat) (hl:l.all p=true):((l.drop a).take b).all p=true:=by
 rw [anT]at *
 exact fun x hx=>hl x (List.mem_of_mem_drop (List.mem_of_mem_take hx))
theorem Kn (hh:HR w0 ν nV nS h lh) {x:V} {a:ak} {esz m:Nat} {g:aL} (hv:vr w0 ν.z ν x a) (hs:EZ h esz x=some (m,g,true)) :
 ∃ q c new,a=.slice q m c/\cellsOf w0 lh q (m*esz)=some new/\new.length=m*esz/\new.all ak.one=true/\∀ i,i<m->lX esz (g i)=true/\bg w0 ν.z ν (g i) ((new.drop (i*esz)).take esz):=by
 unfold EZ at hs
 split at hs
 ·cases hs
  simp only [vr]at hv;subst hv
  exact ⟨none,0,[],rfl,by simp[cellsOf],by simp,rfl,fun i hi=>by omega⟩
 ·rename_i n f
  simp only [aaB,Prod.mk.injEq]at hs
  obtain ⟨rfl,rfl,hok⟩:=hs
  have hok:=cq hok
  simp only [vr]at hv
  obtain ⟨p,c,esz',rfl,_,_,hp,hel⟩:=hv
  cases n with
  | zero =>
    refine ⟨p,c,[],rfl,?_,by simp,rfl,fun i hi=>by omega⟩
    cases p with
    |none=>simp[cellsOf]
    | some q=>cases q with
      |l k off=>obtain⟨cs,ty,h1,h2⟩:=hp;simp[cellsOf,lds,hh.zl _ _ _ h1,h2]
      |g a=>simp[cellsOf,lds,fG]
  | succ n =>
    obtain ⟨q,as0,rfl,hl0,hv0⟩:=hel 0 (by omega)
    have hsz:esz'=esz:=by
     have:=rl hl0
     have h1:=bC hv0.1
     have h2:=(yah (hok 0 (by omega))).1
     omega
    subst hsz
    cases q with
    | l k off =>
      have hel':∀ i,i<n+1->∃ cs ty,ν.z[k]? = some (.cells cs ty)/\off+i*esz'+esz'<=cs.length/\bg w0 ν.z ν (f i) ((cs.drop (off+i*esz')).take esz'):=fun i hi=>by
       obtain ⟨q',az,e1,e2,e3,_⟩:=hel i hi
       cases e1
       simp only [gR.add,lds]at e2
       split at e2
       ·rename_i cs ty hk
        split at e2
        ·rename_i hle
         cases e2
         exact ⟨cs,ty,hk,hle,jW (Nu.nil_sub ν) _ _ e3⟩
        ·cases e2
       ·cases e2
      obtain ⟨cs,ty,c1,c2,_⟩:=hel' n (by omega)
      have hm:(n+1)*esz'=n*esz'+esz':=adm n esz'
      have hlen:((cs.drop off).take ((n+1)*esz')).length=(n+1)*esz':=by simp;omega
      have hch:∀ i,i<n+1->lX esz' (f i)=true/\bg w0 ν.z ν (f i) ((((cs.drop off).take ((n+1)*esz')).drop (i*esz')).take esz'):=fun i hi=>by
       obtain ⟨cs',ty',d1,d2,d3⟩:=hel' i hi
       rw [c1]at d1;cases d1
       refine ⟨hok i hi,?_⟩
       rw [mH hi,ajT]
       exact d3
      refine ⟨_,c,_,rfl,?_,hlen,iH hlen fun i hi=>jP (hch i hi).2 (yah (hch i hi).1).2,hch⟩
      simp only [cellsOf,lds,hh.zl _ _ _ c1]
      rw [aby (by omega)]
    | g a =>
      have hel':∀ i,i<n+1->∃ az,fG w0 (a.add (i*esz')) 0 esz'=some az/\bg w0 ν.z ν (f i) az:=fun i hi=>by
       obtain ⟨q',az,e1,e2,e3,_⟩:=hel i hi
       cases e1
       exact ⟨az,e2,jW (Nu.nil_sub ν) _ _ e3⟩
      obtain ⟨new,hnew⟩:=tu (w0:=w0) (a:=a) ((n+1)*esz') 0 (fun t ht=>by
       by_cases he:esz'=0
       ·subst he;simp at ht
       ·have hi:t / esz'<n+1:=by
         rw [Nat.div_lt_iff_lt_mul (by omega)];exact ht
        obtain ⟨az,e1,_⟩:=hel' _ hi
        obtain ⟨vs,_,hl,hc⟩:=d7 _ _ _ e1
        have hm:t % esz'<vs.length:=by rw[hl];exact Nat.mod_lt _ (by omega)
        have:=hc (t % esz') _ (ach hm)
        rw [zT]at this
        rw [aeb]at this
        rw [Nat.mul_comm,Nat.div_add_mod]at this
        exact ⟨_,by rw[aeb];exact this⟩)
      have hlen:new.length=(n+1)*esz':=by
       obtain ⟨vs,rfl,h2,_⟩:=d7 _ 0 new hnew
       simpa using h2
      have hch:∀ i,i<n+1->lX esz' (f i)=true/\bg w0 ν.z ν (f i) ((new.drop (i*esz')).take esz'):=fun i hi=>by
       obtain ⟨az,e1,e2⟩:=hel' i hi
       have hle:i*esz'+esz'<=(n+1)*esz':=by rw[← adm];exact abt esz' hi
       have:=xj hnew hle
       rw [e1]at this
       cases this
       exact ⟨hok i hi,e2⟩
      exact ⟨_,c,new,rfl,hnew,hlen,iH hlen fun i hi=>jP (hch i hi).2 (yah (hch i hi).1).2,hch⟩
 ·rename_i k n
  rw [be]at hs
  split at hs
  ·rename_i e n' f ty hk
   cases he:Nat.beq e esz with
   |false=>rw[he]at hs;cases hs
   | true =>
     rw [he]at hs
     have:=aax he
     subst this
     simp only [cond_true,aaB,Prod.mk.injEq]at hs
     obtain ⟨rfl,rfl,hle⟩:=hs
     have hle:=aaF hle
     simp only [vr]at hv
     rcases hh.blk k _ hk with ⟨h1,h2⟩|⟨b,c,az,h1,h2,h3,hn,h5⟩
     ·rcases hv with ⟨_,h3,h4⟩|⟨b,c,e,h3,_⟩
      ·subst h3 h4
       exact ⟨none,0,[],rfl,by simp[cellsOf],by simp,rfl,fun i hi=>by omega⟩
      ·rw[h1]at h3;cases h3
     ·rcases hv with ⟨h6,_⟩|⟨b',c',e',h6,rfl,hnc0⟩
      ·rw[h1]at h6;cases h6
      ·rw [h1]at h6
       obtain ⟨rfl,rfl,rfl⟩:_=b'/\_=c'/\_=e':=by simpa using h6
       have hnc:n*e<=c*e:=abt e (by omega)
       have hlen:(az.take (n*e)).length=n*e:=by simp;omega
       have hch:∀ i,i<n->lX e (f i)=true/\bg w0 ν.z ν (f i) (((az.take (n*e)).drop (i*e)).take e):=fun i hi=>by
        rw [mH hi];exact h5 i (by omega)
       refine ⟨_,c,az.take (n*e),rfl,?_,hlen,iH hlen fun i hi=>jP (hch i hi).2 (yah (hch i hi).1).2,hch⟩
       simp only [cellsOf,lds,h2]
       rw [aby (by omega)];simp
  ·cases hs
 ·rename_i k off n c0
  rw [be]at hs
  split at hs
  ·rename_i cs ty hk
   split at hs
   ·rename_i ds hds
    cases hd:ds.all V.one with
    |false=>rw[hd]at hs;cases hs
    | true =>
      rw [hd]at hs
      simp only [cond_true]at hs
      obtain ⟨g1,rfl⟩:=rM hds
      obtain ⟨b,c,e,az,h1,h2,h3⟩:=hh.blk k _ hk
      simp only [vr]at hv
      obtain ⟨b',c',e',h4,rfl⟩:=hv
      rw [h1]at h4
      obtain ⟨rfl,rfl,rfl⟩:_=b'/\_=c'/\_=e':=by simpa using h4
      have hal:=bC h3
      have hvs:=gN (n*esz) (fN off h3)
      have hlen:((az.drop off).take (n*esz)).length=n*esz:=by simp;omega
      have hlenV:((cs.drop off).take (n*esz)).length=n*esz:=by simp;omega
      have hcl:cellsOf w0 lh (some (.l b off)) (n*esz)=some ((az.drop off).take (n*esz)):=by
       simp only [cellsOf,lds,h2];rw[aby (by omega)]
      have hone:=jP hvs hd
      split at hs
      ·simp only[aaB,Prod.mk.injEq]at hs
       obtain ⟨rfl,rfl,_⟩:=hs
       refine ⟨_,c0,_,rfl,hcl,hlen,hone,fun i hi=>?_⟩
       have:i=0:=by omega
       subst this
       simp only [Nat.one_mul]at *
       refine ⟨GG hlenV hd,?_⟩
       simp only [Nat.zero_mul,List.drop_zero,alF,Nat.min_self]
       exact hvs
      ·simp only[aaB,Prod.mk.injEq]at hs
       obtain ⟨rfl,rfl,_⟩:=hs
       exact ⟨_,c0,_,rfl,hcl,hlen,hone,fun i hi=>⟨GG (Ld hlenV hi) (HX _ _ hd),gN esz (fN (i*esz) hvs)⟩⟩
   ·cases hs
  ·cases hs
 ·rename_i k off n
  rw [be]at hs
  split at hs
  ·rename_i e n' f ty hk
   cases he:Nat.beq e esz with
   |false=>rw[he]at hs;cases hs
   | true =>
     rw [he]at hs
     have:=aax he
     subst this
     simp only [cond_true,aaB,Prod.mk.injEq]at hs
     obtain ⟨rfl,rfl,hle⟩:=hs
     have hle:=aaF hle
     simp only [vr]at hv
     rcases hh.blk k _ hk with ⟨h1,h2⟩|⟨b,c,az,h1,h2,h3,hn,h5⟩
     ·rcases hv with ⟨_,h3,_,h4⟩|⟨b,c,e,o,h3,_⟩
      ·subst h3 h4
       exact ⟨none,0,[],rfl,by simp[cellsOf],by simp,rfl,fun i hi=>by omega⟩
      ·rw[h1]at h3;cases h3
     ·rcases hv with ⟨h6,_⟩|⟨b',c',e',o,h6,rfl,⟨hoc,ho1⟩,ho2⟩
      ·rw[h1]at h6;cases h6
      ·rw [h1]at h6
       obtain ⟨rfl,rfl,rfl⟩:_=b'/\_=c'/\_=e':=by simpa using h6
       by_cases hn0:n=0
       ·subst hn0
        refine ⟨_,c-off,[],rfl,?_,by simp,rfl,fun i hi=>by omega⟩
        simp only [cellsOf,lds,h2]
        rw [aby (by omega)];simp
       ·have ho:=ho2 (by omega)
        subst ho
        have hnc:off*e+n*e<=c*e:=by rw[← ajW];exact abt e hoc
        have hlen:((az.drop (off*e)).take (n*e)).length=n*e:=by simp;omega
        have hch:∀ i,i<n->lX e (f (off+i))=true/\bg w0 ν.z ν (f (off+i)) ((((az.drop (off*e)).take (n*e)).drop (i*e)).take e):=fun i hi=>by
         rw [mH hi,ajT,← ajW];exact h5 (off+i) (by omega)
        refine ⟨_,c-off,(az.drop (off*e)).take (n*e),rfl,?_,hlen,iH hlen fun i hi=>jP (hch i hi).2 (yah (hch i hi).1).2,hch⟩
        simp only [cellsOf,lds,h2]
        rw [aby (by omega)]
  ·cases hs
 ·cases hs
theorem JI {esz n m:Nat} {f g:aL} {old new tail az:List ak} (has:az=old++new++tail) (ho:old.length=n*esz) (hn:new.length=m*esz)
 (h1:∀ i,i<n->lX esz (f i)=true/\bg w0 ν.z ν (f i) ((old.drop (i*esz)).take esz)) (h2:∀ i,i<m->lX esz (g i)=true/\bg w0 ν.z ν (g i) ((new.drop (i*esz)).take esz)) :
 ∀ i,i<n+m->lX esz (bh n f g i)=true/\bg w0 ν.z ν (bh n f g i) ((az.drop (i*esz)).take esz):=by
 intro i hi
 subst has
 unfold bh
 by_cases hlt:i<n
 ·have hb:Nat.blt i n=true:=adr hlt
  rw [hb]
  have:i*esz+esz<=n*esz:=by rw[← adm];exact abt esz hlt
  simp only [cond_true]
  rw [amO,anA (by omega),ajK (by simp;omega)]
  exact h1 i hlt
 ·have hb:Nat.blt i n=false:=by
   cases hb:Nat.blt i n with
   |false=>rfl
   |true=>have:=aaF hb;omega
  rw [hb]
  have hi':i-n<m:=by omega
  have e1:i*esz=n*esz+(i-n)*esz:=by rw[← ajW];congr 1;omega
  have e2:(i-n)*esz+esz<=m*esz:=by rw[← adm];exact abt esz hi'
  simp only [cond_false]
  rw [e1,← ajT,amO,← ho,List.drop_left,anA (by omega),ajK (by simp;omega)]
  exact h2 _ hi'
theorem hide_get {k j:Nat} {o:O} (hj:(h.set k .hid)[j]? = some o) (ho:o≠.hid):h[j]? = some o/\j≠k:=by
 rw [aaZ]at hj
 split at hj
 ·split at hj
  ·cases hj;exact(ho rfl).elim
  ·cases hj
 ·rename_i hne;exact⟨hj,fun e=>hne e.symm⟩
theorem HR.move (hh:HR w0 ν nV nS h lh) {p k b c e esz n:Nat} {f:aL} {ty:TypeId} {az:List ak} (hp:ν p=none) (hpl:p<h'.length) (hk:ν k=some (some (b,c,e))) (hlk:ba h k)
 (ho:h'[p]? = some (.gl esz n f ty)) (hoth:∀ j,j ≠ p->h'[j]? = (h.set k .hid)[j]?) (hlb:∃ as0 t0,lh[b]? = some (.cells as0 t0))
 (hlen:az.length=c*esz) (hn:n<=c/\n<=9223372036854775807) (hel:∀ i,i<n->lX esz (f i)=true/\bg w0 ν.z ν (f i) ((az.drop (i*esz)).take esz)) :
 HR w0 (xT ν p (some (b,c,esz))) nV nS h' (lh.set b (.cells az ty))/\ν.sub (xT ν p (some (b,c,esz))):=by
 have hs:=jF (x:=some (b,c,esz)) hp
 have hpk:p≠k:=fun e1=>by subst e1;rw[hp]at hk;cases hk
 obtain ⟨as0,t0,hb0⟩:=hlb
 have hbl:=(List.getElem?_eq_some_iff.1 hb0).1
 have hlive:∀ j,j≠p->ba h' j->ba h j/\j≠k:=fun j hj hl=>by
  rcases ft hl with ⟨_,_,g⟩|⟨_,_,_,_,g⟩
  ·rw[hoth j hj]at g
   obtain ⟨g1,g2⟩:=hide_get g (by simp)
   exact ⟨dM g1,g2⟩
  ·rw[hoth j hj]at g
   obtain ⟨g1,g2⟩:=hide_get g (by simp)
   exact ⟨fY g1,g2⟩
 refine ⟨⟨fun j o hj=>?_,fun j j' x x' h1 h2 h3 h4 h5=>?_,fun j hj=>?_,fun j x hj=>?_,fun j as' ty' hj=>?_,fun j x hj hx=>?_⟩,hs⟩
 ·by_cases e1:j=p
  ·subst e1
   rw [ho]at hj;cases hj
   exact .inr ⟨b,c,az,fw _ _ _,by simp[hbl],hlen,hn,fun i hi=>⟨(hel i hi).1,Ep hs _ _ (hel i hi).2⟩⟩
  ·rw [hoth j e1]at hj
   by_cases hh1:o=.hid
   ·subst hh1;trivial
   ·obtain ⟨g1,g2⟩:=hide_get hj hh1
    by_cases hd:o=.dead
    ·subst hd
     obtain ⟨k1,k2,k3⟩:=hh.blk j _ g1
     refine ⟨by rw[fq,aaT e1];exact k1,k2,?_⟩
     rw [aaZ,aaT (fun e2=>by rw[← e2,hb0]at k3;cases k3)];exact k3
    ·refine dw hs hd (fun b' as' ty' q1 q2=>?_) (hh.blk j _ g1)
     rw [aaZ,aaT]
     ·exact q1
     ·intro e2
      subst e2
      obtain ⟨c',e',q3⟩:=q2
      have hlj:ba h j:=by
       unfold ba d9;rw[be,g1]
       cases o<;>first|rfl|exact(hd rfl).elim|exact(hh1 rfl).elim
      exact g2 (hh.inj j k _ _ hlj hlk q3 hk rfl)
 ·rw [fq]at h3 h4
  by_cases e1:j=p<;>by_cases e2:j'=p
  ·rw[e1,e2]
  ·rw[aby e1]at h3;rw[aaT e2]at h4;cases h3
   obtain ⟨g1,g2⟩:=hlive j' e2 h2
   exact absurd (hh.inj j' k _ _ g1 hlk h4 hk h5.symm) g2
  ·rw[aaT e1]at h3;rw[aby e2]at h4;cases h4
   obtain ⟨g1,g2⟩:=hlive j e1 h1
   exact absurd (hh.inj j k _ _ g1 hlk h3 hk h5) g2
  ·rw[aaT e1]at h3;rw[aaT e2]at h4
   exact hh.inj j j' x x' (hlive j e1 h1).1 (hlive j' e2 h2).1 h3 h4 h5
 ·have e1:j≠p:=fun e1=>by subst e1;omega
  rw [fq,aaT e1]
  apply hh.dom
  have:=hoth j e1
  rw [abm hj]at this
  have:=List.getElem?_eq_none_iff.1 this.symm
  simpa using this
 ·rw[fq]at hj
  split at hj
  ·cases hj;simpa using hbl
  ·simpa using hh.rng j x hj
 ·have hj':ν.z[j]? = some (.cells as' ty'):=hj
  rw [aaZ,aaT fun e2=>?_]
  ·exact hh.zl j as' ty' hj'
  ·subst e2;exact lE (hh.zn k _ hlk hk) _ _ hj'
 ·rw[fq]at hx
  by_cases e1:j=p
  ·rw[aby e1]at hx;cases hx;exact hh.zn k (b,c,e) hlk hk
  ·rw[aaT e1]at hx;exact hh.zn j x (hlive j e1 hj).1 hx
theorem HR.renu (hh:HR w0 ν nV nS h lh) {p k b c e esz:Nat} {f:aL} {ty:TypeId} {az:List ak} (hp:ν p=none) (hpl:p<h'.length) (hk:ν k=some (some (b,c,e))) (hlk:ba h k)
 (ho:h'[p]? = some (.gl esz 0 f ty)) (hoth:∀ j,j ≠ p->h'[j]? = (h.set k .hid)[j]?) (hlb:∃ as0 t0,lh[b]? = some (.cells as0 t0)) (has:az=[]) :
 HR w0 (xT ν p (some (b,0,esz))) nV nS h' (lh.set b (.cells az ty))/\ν.sub (xT ν p (some (b,0,esz))):=by
 subst has
 have hs:=jF (x:=some (b,0,esz)) hp
 have hpk:p≠k:=fun e1=>by subst e1;rw[hp]at hk;cases hk
 obtain ⟨as0,t0,hb0⟩:=hlb
 have hbl:=(List.getElem?_eq_some_iff.1 hb0).1
 have hlive:∀ j,j≠p->ba h' j->ba h j/\j≠k:=fun j hj hl=>by
  rcases ft hl with ⟨_,_,g⟩|⟨_,_,_,_,g⟩
  ·rw[hoth j hj]at g
   obtain ⟨g1,g2⟩:=hide_get g (by simp)
   exact ⟨dM g1,g2⟩
  ·rw[hoth j hj]at g
   obtain ⟨g1,g2⟩:=hide_get g (by simp)
   exact ⟨fY g1,g2⟩
 refine ⟨⟨fun j o hj=>?_,fun j j' x x' h1 h2 h3 h4 h5=>?_,fun j hj=>?_,fun j x hj=>?_,fun j as' ty' hj=>?_,fun j x hj hx=>?_⟩,hs⟩
 ·by_cases e1:j=p
  ·subst e1
   rw [ho]at hj;cases hj
   exact .inr ⟨b,0,[],fw _ _ _,by simp[hbl],by simp,⟨aaS _,by omega⟩,fun i hi=>by omega⟩
  ·rw [hoth j e1]at hj
   by_cases hh1:o=.hid
   ·subst hh1;trivial
   ·obtain ⟨g1,g2⟩:=hide_get hj hh1
    by_cases hd:o=.dead
    ·subst hd
     obtain ⟨k1,k2,k3⟩:=hh.blk j _ g1
     refine ⟨by rw[fq,aaT e1];exact k1,k2,?_⟩
     rw [aaZ,aaT (fun e2=>by rw[← e2,hb0]at k3;cases k3)];exact k3
    ·refine dw hs hd (fun b' as' ty' q1 q2=>?_) (hh.blk j _ g1)
     rw [aaZ,aaT]
     ·exact q1
     ·intro e2
      subst e2
      obtain ⟨c',e',q3⟩:=q2
      have hlj:ba h j:=by
       unfold ba d9;rw[be,g1]
       cases o<;>first|rfl|exact(hd rfl).elim|exact(hh1 rfl).elim
      exact g2 (hh.inj j k _ _ hlj hlk q3 hk rfl)
 ·rw [fq]at h3 h4
  by_cases e1:j=p<;>by_cases e2:j'=p
  ·rw[e1,e2]
  ·rw[aby e1]at h3;rw[aaT e2]at h4;cases h3
   obtain ⟨g1,g2⟩:=hlive j' e2 h2
   exact absurd (hh.inj j' k _ _ g1 hlk h4 hk h5.symm) g2
  ·rw[aaT e1]at h3;rw[aby e2]at h4;cases h4
   obtain ⟨g1,g2⟩:=hlive j e1 h1
   exact absurd (hh.inj j k _ _ g1 hlk h3 hk h5) g2
  ·rw[aaT e1]at h3;rw[aaT e2]at h4
   exact hh.inj j j' x x' (hlive j e1 h1).1 (hlive j' e2 h2).1 h3 h4 h5
 ·have e1:j≠p:=fun e1=>by subst e1;omega
  rw [fq,aaT e1]
  apply hh.dom
  have:=hoth j e1
  rw [abm hj]at this
  have:=List.getElem?_eq_none_iff.1 this.symm
  simpa using this
 ·rw[fq]at hj
  split at hj
  ·cases hj;simpa using hbl
  ·simpa using hh.rng j x hj
 ·have hj':ν.z[j]? = some (.cells as' ty'):=hj
  rw [aaZ,aaT fun e2=>?_]
  ·exact hh.zl j as' ty' hj'
  ·subst e2;exact lE (hh.zn k _ hlk hk) _ _ hj'
 ·rw[fq]at hx
  by_cases e1:j=p
  ·rw[aby e1]at hx;cases hx;exact hh.zn k (b,c,e) hlk hk
  ·rw[aaT e1]at hx;exact hh.zn j x (hlive j e1 hj).1 hx
theorem HR.virt (hh:HR w0 ν nV nS h lh) {p:Nat} {esz:Nat} {f:aL} {ty:TypeId} (hp:ν p=none) (hpl:p < h'.length) (ho:h'[p]? = some (.gl esz 0 f ty)) (hoth:∀ j,j ≠ p->h'[j]? = h[j]?) :
 HR w0 (xT ν p none) nV nS h' lh/\ν.sub (xT ν p none):=by
 have hs:=jF (x:=none) hp
 have hlive:∀ j,j≠p->ba h' j->ba h j:=fun k hk hl=>by unfold ba d9 at *;rw[be]at *;rw[hoth k hk]at hl;exact hl
 refine ⟨⟨fun j o hj=>?_,fun j j' x x' h1 h2 h3 h4 h5=>?_,fun j hj=>?_,fun j x hj=>?_,hh.zl,fun j x hj hx=>?_⟩,hs⟩
 ·by_cases e1:j=p
  ·subst e1
   rw [ho]at hj;cases hj
   exact .inl ⟨fw _ _ _,rfl⟩
  ·rw [hoth j e1]at hj
   by_cases hd:o=.dead
   ·subst hd
    obtain ⟨k1,k2,k3⟩:=hh.blk j _ hj
    exact ⟨by rw[fq,aaT e1];exact k1,k2,k3⟩
   ·exact dw hs hd (fun _ _ _ q _=>q) (hh.blk j _ hj)
 ·rw [fq]at h3 h4
  by_cases e1:j=p
  ·rw[aby e1]at h3;cases h3
  ·by_cases e2:j'=p
   ·rw[aby e2]at h4;cases h4
   ·rw[aaT e1]at h3;rw[aaT e2]at h4
    exact hh.inj j j' x x' (hlive j e1 h1) (hlive j' e2 h2) h3 h4 h5
 ·have e1:j≠p:=fun e1=>by subst e1;omega
  rw [fq,aaT e1]
  apply hh.dom
  have:=hoth j e1
  rw [abm hj]at this
  exact List.getElem?_eq_none_iff.1 this.symm
 ·rw[fq]at hj
  split at hj
  ·cases hj
  ·exact hh.rng j x hj
 ·rw[fq]at hx
  by_cases e1:j=p
  ·rw[aby e1]at hx;cases hx
  ·rw[aaT e1]at hx;exact hh.zn j x (hlive j e1 hj) hx
theorem o3 {pl:Option Nat} {o:O} {K:Nat->List O->T α} (hh:HR w0 ν nV nS h lh) (hs:bu LP (fp pl h o K) Q):∃ p h',ν p=none/\p < h'.length/\h'[p]? = some o/\(∀ j,j ≠ p->h'[j]? = h[j]?)/\(pl=none ∨ (pl=some p/\h'=h.set p o/\p < h.length))/\bu LP (K p h') Q:=by
 unfold fp at hs
 split at hs
 ·rw[bG,xk]at hs
  refine ⟨_,_,hh.dom h.length (aaS _),by simp,by simp,fun k hk=>?_,.inl rfl,hs⟩
  rw [acF];split
  ·rfl
  ·rw[abm (by simp;omega),abm (by omega)]
 ·rename_i p
  rw [be]at hs
  split at hs
  ·rename_i hd
   rw [gK]at hs
   have hlt:=(List.getElem?_eq_some_iff.1 hd).1
   exact ⟨_,_,(hh.blk p _ hd).1,by simpa using hlt,by simp[hlt],fun k hk=>by simp[hk.symm],.inr ⟨rfl,rfl,hlt⟩,hs⟩
  ·exact hs.elim
theorem Ug {az us:List ak} {off:Nat} (hl:off+us.length<=az.length):wr az off us=az.take off++us++az.drop (off+us.length):=by
 apply agE
 intro t
 rw [wi _ _ _ _ hl,amO,acF]
 have h1:(az.take off).length=off:=by simp;omega
 rw [h1]
 by_cases h2:t<off
 ·rw[aaT (by omega),aby h2,afz,aby h2]
 ·rw[aaT h2,acF]
  by_cases h3:t<off+us.length
  ·rw[aby ⟨by omega,h3⟩,aby (by omega)]
  ·rw[aaT (by omega),aaT (by omega),ahB];congr 1;omega
theorem KO {z:List ak} (n:Nat):(List.replicate n z).flatten.length=n*z.length:=by
 induction n with
 |zero=>simp
 |succ n ih=>rw[ajX,apH,aft,ih,adm];omega
theorem rp {p j:Nat} {o:O} (hl:ba (h.set p o) j):ba h j∨p=j:=by
 by_cases e:p=j
 ·exact .inr e
 ·left;unfold ba d9 at *;rw[be]at *;rw[aaZ,aaT e]at hl;exact hl
theorem yJ {k j:Nat} (hl:ba (h.set k .hid) j):ba h j:=by
 rcases ft hl with ⟨_,_,g⟩|⟨_,_,_,_,g⟩
 ·exact dM (hide_get g (by simp)).1
 ·exact fY (hide_get g (by simp)).1
theorem AX {p k:Nat} {x y:Option (Nat×Nat×Nat)} (hk:xT ν p x k=some y):ν k=some y∨(p=k/\y=x):=by
 rw [fq]at hk
 split at hk
 ·rename_i e;cases hk;exact .inr ⟨e.symm,rfl⟩
 ·exact .inl hk
theorem ya.put {p b c e:Nat} {o:O} {ob:ao} {wn:List Nat} {pl plA:Option Nat} (hpl:pl=some p) (hplA:plA=some b) (hh:h'=h.set p o) (hl:lh'=lh.set b ob):ya ν (xT ν p (some (b,c,e))) wn pl plA h h' lh lh':=by
 subst hpl hplA hh hl
 refine ⟨by simp,fun j hj _=>by rw[aaZ,aaT (fun e=>hj (by rw[e]))],fun k x hk=>?_,by simp,fun k hk=>?_,rfl⟩
 ·rcases AX hk with h1|⟨rfl,rfl⟩
  ·exact .inl h1
  ·exact .inr ⟨rfl,fun y hy=>by cases hy;exact .inl rfl⟩
 ·rcases rp hk with h1|rfl
  ·exact .inl h1
  ·exact .inr rfl
theorem ya.hide {k:Nat} {wn:List Nat} {pl plA:Option Nat} (hm:ya ν ν' wn pl plA (h.set k .hid) h' lh lh'):ya ν ν' wn pl plA h h' lh lh' :=
 ⟨hm.len,hm.chg,hm.nw,by simpa using hm.hlen,fun j hj=>by
   rcases hm.liv j hj with h1|h1
   ·exact .inl (yJ h1)
   ·exact .inr h1,hm.zz⟩
theorem s8 {n b:Nat} (hb:b≠0) (h:n*b<=140737488355328):n<=9223372036854775807:=by
 have:n*1<=n*b:=Nat.mul_le_mul_left n (Nat.one_le_iff_ne_zero.2 hb)
 omega
theorem rQ (hh:HR w0 ν nV nS h lh) {pl plA:Option Nat} (hp:plR nV nS pl plA) {ty:TypeId} {esz n m c':Nat} {f g:aL} {old new zero:List ak} {K:V->List O->T α} {KA:ak->List ao->Prop}
 (hz:zero.length=esz) (ho:old.length=n*esz) (hn:new.length=m*esz) (hc:n+m<=c') (hmx:n+m<=9223372036854775807)
 (h1:∀ i,i<n->lX esz (f i)=true/\bg w0 ν.z ν (f i) ((old.drop (i*esz)).take esz)) (h2:∀ i,i<m->lX esz (g i)=true/\bg w0 ν.z ν (g i) ((new.drop (i*esz)).take esz))
 (hs:bu LP (fp pl h (.gl esz (n+m) (bh n f g) ty) fun p h=>K (.gs p (n+m)) h) Q)
 (hK:∀ v h' ν' a lh',(plA≠none->∀ wn,ya ν ν' wn pl plA h h' lh lh')->ν.sub ν'->HR w0 ν' nV nS h' lh'->vr w0 ν'.z ν' v a->bu LP (K v h') Q->KA a lh') :
 place plA lh (.cells (old++new++(List.replicate (c'-(n+m)) zero).flatten) ty) fun b lh'=>KA (.slice (some (.l b 0)) (n+m) c') lh':=by
 refine Dy (o:=.gl esz (n+m) (bh n f g) ty) (c:=c') (e:=esz) hh hp (by simp) (fun p b lh' hb hp'=>.inr ⟨b,c',_,fw _ _ _,hb,?_,⟨hc,hmx⟩,fun i hi=>?_⟩) hs (fun p b h' lh' hch hp' hr hs'=>hK _ _ _ _ _ (fun hn wn=>?_) (jF hp') hr ?_ hs')
 ·rw[aft,aft,ho,hn,KO,hz,← ajW,← ajW];congr 1;omega
 ·obtain⟨g1,g2⟩:=JI rfl ho hn h1 h2 i hi
  exact ⟨g1,jW (jF hp') _ _ g2⟩
 ·rcases hch with ⟨_,e1⟩|⟨e1,e2,e3,e4,_⟩
  ·exact(hn e1).elim
  ·exact ya.put e1 e2 e3 e4
 ·simp only[vr];exact .inr ⟨b,c',esz,fw _ _ _,rfl,hc⟩
theorem zN {p:Nat} (hp:ν p=some none):vr w0 lh ν (.gs p 0) (.slice none 0 0):=by
 unfold vr;exact .inl ⟨hp,rfl,rfl⟩
theorem qp (f g:aL) (i:Nat):bh 0 f g i=g i:=by
 unfold bh
 have:Nat.blt i 0=false:=by
  cases hb:Nat.blt i 0 with
  |false=>rfl
  |true=>have:=aaF hb;omega
 rw [this];simp
theorem Wl (az:List ak) (off:Nat):wr az off []=az:=rfl
theorem Rq {α:Type} {l:List α} {i:Nat} {x:α} (h:l[i]? = some x):l.set i x=l:=by
 obtain ⟨hi,rfl⟩:=List.getElem?_eq_some_iff.1 h
 exact List.set_getElem_self hi
theorem VR (hh:HR w0 ν nV nS h lh) {pl plA:Option Nat} (hp:plR nV nS pl plA) {ty:TypeId} {esz bytes:Nat} {zero:List ak} {s x:V} {a a':ak} {K:V->List O->T α} {KA:ak->List ao->Prop}
 (hvs:vr w0 ν.z ν s a) (hvx:vr w0 ν.z ν x a') (hz:zero.length=esz) (hs:bu LP (afv pl h ty esz bytes s x K) Q)
 (hK:∀ v h' ν' a lh',(plA≠none->∀ wn,(∀ l,jn h s=some l->∀ k,k∈l->k∈wn)->ya ν ν' wn pl plA h h' lh lh')->ν.sub ν'->HR w0 ν' nV nS h' lh'->vr w0 ν'.z ν' v a->bu LP (K v h') Q->KA a lh'):rR w0 lh plA ty esz bytes zero KA a a':=by
 unfold afv at hs
 split at hs
 ·exact hs.elim
 ·rename_i m g q hsrc
  simp only [bu]at hs
  obtain ⟨rfl,hs⟩:=hs
  obtain ⟨q,c2,new,rfl,hnew,hnl,hno,hel⟩:=Kn hh hvx hsrc
  have hKp:∀ v h' ν' a lh',(plA≠none->∀ wn,ya ν ν' wn pl plA h h' lh lh')->ν.sub ν'->HR w0 ν' nV nS h' lh'->vr w0 ν'.z ν' v a->bu LP (K v h') Q->KA a lh' :=
   fun v h' ν' a lh' hc=>hK v h' ν' a lh' fun hpl wn _=>hc hpl wn
  have hKh:∀ k v h' ν' a lh',(plA≠none->∀ wn,ya ν ν' wn pl plA (h.set k .hid) h' lh lh')->ν.sub ν'->HR w0 ν' nV nS h' lh'->vr w0 ν'.z ν' v a->bu LP (K v h') Q->KA a lh' :=
   fun k v h' ν' a lh' hc=>hKp v h' ν' a lh' fun hpl wn=>(hc hpl wn).hide
  have hno0:plA≠none->pl≠none:=fun hn=>by
   rcases hp with ⟨e1,e2⟩|⟨p,e1,e2⟩
   ·exact(hn e2).elim
   ·rw[e1];simp
  have hvirt:∀ {h0 h':List O} {p:Nat} {o:O} {wn:List Nat},plA≠none->(pl=none∨(pl=some p/\h'=h0.set p o/\p<h0.length))->ya ν (xT ν p none) wn pl plA h0 h' lh lh:=by
   intro h0 h' p o wn hn hx
   rcases hx with e1|⟨e1,e2,_⟩
   ·exact(hno0 hn e1).elim
   ·subst e2
    refine ⟨rfl,fun _ _ _=>rfl,fun k x hk=>?_,by simp,fun k hk=>?_,rfl⟩
    ·rcases AX hk with h1|⟨rfl,rfl⟩
     ·exact .inl h1
     ·exact .inr ⟨e1,fun y hy=>by cases hy⟩
    ·rcases rp hk with h1|rfl
     ·exact .inl h1
     ·exact .inr e1
  have hmove:∀ {k p b c ez c2 e2:Nat} {h':List O} {o:O} {ob:ao} {wn:List Nat},plA≠none->ν k=some (some (b,c2,e2))->k∈wn->(pl=none∨(pl=some p/\h'=(h.set k .hid).set p o/\p<(h.set k .hid).length))->ya ν (xT ν p (some (b,c,ez))) wn pl plA h h' lh (lh.set b ob):=by
   intro k p b c ez c2 e2 h' o ob wn hn hk hw hx
   rcases hx with e1|⟨e1,e3,_⟩
   ·exact(hno0 hn e1).elim
   ·subst e3
    refine ⟨by simp,fun j _ hj=>by rw[aaZ,aaT (hj k _ hw hk)],fun k' x hk'=>?_,by simp,fun k' hk'=>?_,rfl⟩
    ·rcases AX hk' with h1|⟨rfl,rfl⟩
     ·exact .inl h1
     ·exact .inr ⟨e1,fun y hy=>by cases hy;exact .inr ⟨k,_,hw,hk,rfl⟩⟩
    ·rcases rp hk' with h1|rfl
     ·exact .inl (yJ h1)
     ·exact .inr e1
  split at hs
  ·-- nil
   simp only [bu,aaw,abN,aia]at hs
   obtain ⟨⟨hsz,hb0⟩,hs⟩:=hs
   simp only [vr]at hvs;subst hvs
   have hb:bytes≠0:=fun e=>by subst e;simp at hb0
   refine ⟨new,hnew,fun hle=>?_,fun hlt=>⟨[],by simp[cellsOf],?_,.inr hb,fun c' hc'=>?_⟩⟩
   ·have hm:m=0:=by omega
    subst hm
    obtain ⟨p,h',e1,e2,e3,e4,e6,e5⟩:=o3 hh hs
    obtain ⟨r1,r2⟩:=hh.virt e1 e2 e3 e4
    exact hKp _ _ _ _ _ (fun hn wn=>hvirt hn e6) r2 r1 (zN (fw _ _ _)) e5
   ·exact growslice_fits hlt (by simpa using hsz)
   ·have e0:bh 0 (fun _=>[]) g=g:=funext fun i=>qp _ g i
    have:=rQ (n:=0) (f:=fun _=>[]) (old:=[]) hh hp (K:=K) (KA:=KA) (ty:=ty) (c':=c') (g:=g) (m:=m) hz (by simp) hnl hc' (by rw[aeb];exact s8 hb (by simpa using hsz)) (fun i hi=>by omega) hel (by rw[e0];simpa using hs) hKp
    exact this
  ·-- a list
   rename_i k n
   rw [be]at hs
   split at hs
   ·rename_i e n' f ty' hk
    cases hc:(Nat.beq e esz&&Nat.beq ty ty') with
    |false=>rw[hc]at hs;exact hs.elim
    | true =>
      rw [hc]at hs
      simp only [aaw]at hc
      have:=aax hc.1
      subst this
      have:=aax hc.2
      subst this
      simp only [cond_true,bu,aaw,abN,aia]at hs
      obtain ⟨⟨⟨hnn,hsz⟩,hb0⟩,hs⟩:=hs
      have hb:bytes≠0:=fun e=>by subst e;simp at hb0
      rw [gK]at hs
      have hlk:=fY hk
      have hname:jn h (.gs k n)=some [k]:=by simp only[jn];unfold ba at hlk;rw[hlk];rfl
      simp only [vr]at hvs
      rcases hh.blk k _ hk with ⟨h1,h2⟩|⟨b,c,az,h1,h2,h3,hn,h5⟩
      ·rcases hvs with ⟨_,h3,h4⟩|⟨b,c,e,h3,_⟩
       ·subst h3 h4
        have e0:bh 0 f g=g:=funext fun i=>qp _ g i
        refine ⟨new,hnew,fun hle=>?_,fun hlt=>⟨[],by simp[cellsOf],?_,.inr hb,fun c' hc'=>?_⟩⟩
        ·have hm:m=0:=by omega
         subst hm
         obtain ⟨p,h',e1,e2,e3,e4,e6,e5⟩:=o3 (hh.hide1 k) hs
         obtain ⟨r1,r2⟩:=(hh.hide1 k).virt e1 e2 e3 e4
         exact hKh k _ _ _ _ _ (fun hn wn=>hvirt hn e6) r2 r1 (zN (fw _ _ _)) e5
        ·exact growslice_fits hlt (by simpa using hsz)
        ·exact rQ (n:=0) (f:=f) (old:=[]) (hh.hide1 k) hp (K:=K) (KA:=KA) (c':=c') (g:=g) (m:=m) hz (by simp) hnl hc' (by rw[aeb];exact s8 hb (by simpa using hsz)) (fun i hi=>by omega) hel (by simpa using hs) (hKh k)
       ·rw[h1]at h3;cases h3
      ·rcases hvs with ⟨h6,_⟩|⟨b',c',e',h6,rfl,hnc0⟩
       ·rw[h1]at h6;cases h6
       ·rw [h1]at h6
        obtain ⟨rfl,rfl,rfl⟩:_=b'/\_=c'/\_=e':=by simpa using h6
        have hnc:n*e<=c*e:=abt e (by omega)
        have hol:(az.take (n*e)).length=n*e:=by simp;omega
        have hold:∀ i,i<n->lX e (f i)=true/\bg w0 ν.z ν (f i) (((az.take (n*e)).drop (i*e)).take e):=fun i hi=>by rw[mH hi];exact h5 i (by omega)
        refine ⟨new,hnew,fun hle=>⟨az,_,h2,hno,?_,?_⟩,fun hlt=>⟨az.take (n*e),?_,?_,.inr hb,fun c' hc'=>?_⟩⟩
        ·rw[aeb,hnl,← ajW,h3];exact abt e hle
        ·rw[aeb]
         obtain ⟨p,h',e1,e2,e3,e4,e6,e5⟩:=o3 (hh.hide1 k) hs
         have hfit:n*e+new.length<=az.length:=by rw[hnl,← ajW,h3];exact abt e hle
         obtain ⟨r1,r2⟩:=hh.move (az:=wr az (n*e) new) e1 e2 h1 hlk e3 e4 ⟨_,_,h2⟩ (by rw[oW];exact h3) ⟨hle,s8 hb hsz⟩ (JI (Ug hfit) hol hnl hold hel)
         exact hK _ _ _ _ _ (fun hn wn hw=>hmove hn h1 (hw _ hname k ahE) e6) r2 r1 (by simp only[vr];exact .inr ⟨b,c,e,fw _ _ _,rfl,hle⟩) e5
        ·simp only[cellsOf,lds,h2];rw[aby (by omega)];simp
        ·exact growslice_fits hlt hsz
        ·exact rQ (hh.hide1 k) hp (K:=K) (KA:=KA) (c':=c') hz hol hnl hc' (s8 hb hsz) hold hel hs (hKh k)
   ·exact hs.elim
  ·-- a block of a known size
   rename_i k off n c
   split at hs
   ·rename_i m' f q' hsrc2
    have hq2:∃ r,EZ h esz (.ss k off n c)=some (n,f,true)/\m'=n/\q'=r:=by
     refine ⟨q',?_⟩
     have:=hsrc2
     unfold EZ at this
     simp only [be]at this
     split at this
     ·split at this
      ·cases hd:(List.all _ V.one) with
       |false=>rw[hd]at this;cases this
       | true =>
         rw [hd]at this
         simp only [cond_true]at this
         split at this
         ·cases this;exact⟨hsrc2,rfl,rfl⟩
         ·cases this;exact⟨hsrc2,rfl,rfl⟩
      ·cases this
     ·cases this
    obtain ⟨_,hsrc2',rfl,_⟩:=hq2
    obtain ⟨qs,cs,old,e1,hold,hol,hoo,helo⟩:=Kn hh hvs hsrc2'
    have hvs':=hvs
    simp only [vr]at hvs'
    obtain ⟨b,c',e',hν,rfl⟩:=hvs'
    cases e1
    split at hs
    ·rename_i hn0 hc0
     rw [be]at hs
     split at hs
     ·rename_i ty' hk
      cases hc:(Nat.beq ty ty'&&Nat.beq off 0) with
      |false=>rw[hc]at hs;exact hs.elim
      | true =>
        rw [hc]at hs
        simp only [aaw]at hc
        have:=aax hc.1
        subst this
        have:=aax hc.2
        subst this
        simp only [cond_true,bu,aaw,abN,aia]at hs
        obtain ⟨⟨hsz,hb0⟩,hs⟩:=hs
        have hb:bytes≠0:=fun e=>by subst e;simp at hb0
        rw [gK]at hs
        have hlk:=dM hk
        have hname:jn h (.ss k 0 0 0)=some [k]:=by simp only[jn];unfold ba at hlk;rw[hlk];rfl
        obtain ⟨b2,c2',e2',az,h1,h2,h3⟩:=hh.blk k _ hk
        rw [hν]at h1
        obtain ⟨rfl,rfl,rfl⟩:_=b2/\_=c2'/\_=e2':=by simpa using h1
        simp only [bg]at h3;subst h3
        have e0:bh 0 f g=g:=funext fun i=>qp _ g i
        refine ⟨new,hnew,fun hle=>⟨[],_,h2,hno,?_,?_⟩,fun hlt=>⟨old,hold,?_,.inr hb,fun c' hc'=>?_⟩⟩
        ·have hm:m=0:=by omega
         subst hm
         simp at hnl;subst hnl;simp
        ·have hm:m=0:=by omega
         subst hm
         simp at hnl;subst hnl
         obtain ⟨p,h',e1,e2,e3,e4,e6,e5⟩:=o3 (hh.hide1 k) hs
         -- the block is that of an empty list
         obtain ⟨r1,r2⟩:=hh.renu (az:=[]) e1 e2 hν hlk e3 e4 ⟨_,_,h2⟩ rfl
         exact hK _ _ _ _ _ (fun hn wn hw=>hmove hn hν (hw _ hname k ahE) e6) r2 r1 (by unfold vr;exact .inr ⟨b,0,esz,fw _ _ _,rfl,aaS _⟩) e5
        ·exact growslice_fits hlt (by simpa using hsz)
        ·exact rQ (n:=0) (f:=f) (hh.hide1 k) hp (K:=K) (KA:=KA) (c':=c') (g:=g) (m:=m) hz hol hnl hc' (by rw[aeb];exact s8 hb (by simpa using hsz)) (fun i hi=>by omega) hel (by rw[e0];simpa using hs) (hKh k)
     ·exact hs.elim
    ·have hgr:bu LP (.ob (decide (c<m'+m/\(m'+m)*bytes<=140737488355328)&&!Nat.beq bytes 0) (fp pl h (.gl esz (m'+m) (bh m' f g) ty) fun p h=>K (.gs p (m'+m)) h)) Q->rR w0 lh plA ty esz bytes zero KA (.slice (some (.l b off)) m' c) (.slice q m c2):=fun hs=>by
      simp only [bu,aaw,abN,aia]at hs
      obtain ⟨⟨⟨hlt,hsz⟩,hb0⟩,hs⟩:=hs
      have hb:bytes≠0:=fun e=>by subst e;simp at hb0
      refine ⟨new,hnew,fun hle=>by omega,fun _=>⟨old,hold,growslice_fits hlt hsz,.inr hb,fun c' hc'=>?_⟩⟩
      exact rQ hh hp (K:=K) (KA:=KA) (c':=c') hz hol hnl hc' (s8 hb hsz) helo hel hs hKp
     split at hs
     ·simp only [bu]at hs
      cases hm:Nat.beq m 0 with
      |false=>exact hgr (hs.2 hm)
      | true =>
        obtain ⟨hnc,hs2⟩:=hs.1 hm
        have hm0:m=0:=aax hm
        have hnc:=aaF hnc
        subst hm0
        rw [Nat.zero_mul]at hnl
        have hnn:new=[]:=List.length_eq_zero_iff.1 hnl
        subst hnn
        have hsr:=hsrc2'
        unfold EZ at hsr
        simp only [be]at hsr
        split at hsr
        ·rename_i csV ty0 hk
         obtain ⟨b2,c2',e2',az,h1,h2,h3⟩:=hh.blk k _ hk
         rw [hν]at h1
         obtain ⟨rfl,rfl,rfl⟩:_=b2/\_=c2'/\_=e2':=by simpa using h1
         have hbd:off+m'*esz<=az.length:=by
          have ho:=hold
          simp only [cellsOf,lds,h2]at ho
          split at ho
          ·assumption
          ·cases ho
         refine ⟨[],hnew,fun _=>⟨az,_,h2,hno,by simpa using hbd,?_⟩,fun hlt=>by omega⟩
         rw [Wl,show lh.set b (.cells az ty0)=lh from Rq h2]
         exact hK _ _ ν _ _ (fun hn wn hw=>ya.refl ..) (Nu.sub_refl _) hh hvs hs2
        ·cases hsr
     ·exact hgr hs
   ·exact hs.elim
  ·exact hs.elim
end
section
variable {w0:World} {ν ν':Nu} {nV nS N:Nat} {h h':List O} {lh lh':List ao} {α:Type} {LP:eu} {Q:α->Prop} {e:bD} {sl:List ak} {ctx:Bool} {S:FuncId->bH}
theorem agD (c:Bool):∀ {x y z:V} {a b:ak},mrg c x y=some z->(c=true->vr w0 lh ν x a)->(c=false->vr w0 lh ν y b)->vr w0 lh ν z (if c then a else b):=by
 have key:∀ (x:V),(∀ (y z:V) (a b:ak),mrg c x y=some z->(c=true->vr w0 lh ν x a)->(c=false->vr w0 lh ν y b)->vr w0 lh ν z (if c then a else b)):=by
  intro x
  refine V.rec (motive_1:=fun x=>∀ (y z:V) (a b:ak),mrg c x y=some z->(c=true->vr w0 lh ν x a)->(c=false->vr w0 lh ν y b)->vr w0 lh ν z (if c then a else b))
   (motive_2:=fun xs=>∀ (ys zs:List V) (az bs:List ak),KJ c xs ys=some zs->(c=true->bg w0 lh ν xs az)->(c=false->bg w0 lh ν ys bs)->bg w0 lh ν zs (if c then az else bs))
   ?_ ?_ ?_ ?_ ?_ ?_ ?_ ?_ ?_ ?_ ?_ ?_ ?_ ?_ ?_ ?_ ?_ ?_ ?_ ?_ ?_ ?_ x
  case refine_1 =>
   intro k n y z a b hm h1 h2
   cases y<;>simp only[mrg]at hm<;>try cases hm
   split at hm
   ·rename_i he _;subst he;cases hm
    simp only [vr]at *
    cases c
    ·rw[h2 rfl];rfl
    ·rw[h1 rfl];rfl
   ·cases hm
  case refine_2 =>
   intro p y z a b hm h1 h2
   simp only [mrg]at hm
   split at hm
   ·rename_i q hq
    cases hm
    cases c
    ·have h2:=h2 rfl
     cases y<;>simp only[nu]at hq<;>cases hq<;>(simp only[vr]at h2 ⊢;subst h2;rfl)
    ·have h1:=h1 rfl
     simp only [vr]at h1 ⊢;subst h1;rfl
   ·cases hm
  case refine_3 =>
   intro p y z a b hm h1 h2
   simp only [mrg]at hm
   split at hm
   ·rename_i q hq
    cases hm
    cases c
    ·have h2:=h2 rfl
     cases y<;>simp only[nu]at hq<;>cases hq<;>(simp only[vr]at h2 ⊢;subst h2;rfl)
    ·have h1:=h1 rfl
     simp only [vr]at h1 ⊢;subst h1;rfl
   ·cases hm
  case refine_4 =>
   intro s y z a b hm h1 h2
   cases y<;>simp only[mrg]at hm<;>try cases hm
   simp only [vr]at *
   cases c
   ·rw[h2 rfl];rfl
   ·rw[h1 rfl];rfl
  case refine_5 =>
   intro cs ih y z a b hm h1 h2
   cases y<;>simp only[mrg]at hm<;>try cases hm
   split at hm
   ·rename_i zs hz
    cases hm
    simp only [vr]at *
    cases c
    ·obtain⟨az,rfl,g⟩:=h2 rfl
     have:=ih _ _ [] az hz (fun h=>by cases h) (fun _=>g)
     exact ⟨az,rfl,by simpa using this⟩
    ·obtain⟨az,rfl,g⟩:=h1 rfl
     have:=ih _ _ az [] hz (fun _=>g) (fun h=>by cases h)
     exact ⟨az,rfl,by simpa using this⟩
   ·cases hm
  case refine_21 =>
   intro ys zs az bs hm h1 h2
   cases ys<;>simp only[KJ]at hm<;>cases hm
   simp only [bg]at *
   cases c
   ·simpa using h2 rfl
   ·simpa using h1 rfl
  case refine_22 =>
   intro x xs ihx ihxs ys zs az bs hm h1 h2
   cases ys with
   |nil=>simp[KJ]at hm
   | cons y ys =>
     simp only [KJ]at hm
     split at hm
     ·rename_i z hz
      split at hm
      ·rename_i zs' hzs
       cases hm
       cases c
       ·have h2:=h2 rfl
        simp only [bg]at h2 ⊢
        obtain ⟨b,bs,rfl,g1,g2⟩:=h2
        have i1:=ihx y z (.any) b hz (fun h=>by cases h) (fun _=>g1)
        have i2:=ihxs ys zs' [] bs hzs (fun h=>by cases h) (fun _=>g2)
        exact ⟨b,bs,rfl,by simpa using i1,by simpa using i2⟩
       ·have h1:=h1 rfl
        simp only [bg]at h1 ⊢
        obtain ⟨b,bs,rfl,g1,g2⟩:=h1
        have i1:=ihx y z b (.any) hz (fun _=>g1) (fun h=>by cases h)
        have i2:=ihxs ys zs' bs [] hzs (fun _=>g2) (fun h=>by cases h)
        exact ⟨b,bs,rfl,by simpa using i1,by simpa using i2⟩
      ·cases hm
     ·cases hm
  all_goals (intros;rename_i hm _ _;simp[mrg]at hm)
 intro x y z a b h0 h1 h2
 exact key x y z a b h0 h1 h2
theorem Hi:∀ {xs ys:List V} {az bs:List ak} {b:Bool},Ek xs ys=some b->bg w0 lh ν xs az->bg w0 lh ν ys bs->bN az bs=some b
 | [],[],az,bs,b,hm,h1,h2=>by
   simp only [bg]at h1 h2;subst h1 h2
   simp only [Ek,bN]at *;exact hm
 |[],y::ys,az,bs,b,hm,h1,h2=>by cases y<;>simp[Ek]at hm
 |x::xs,[],az,bs,b,hm,h1,h2=>by cases x<;>simp[Ek]at hm
 | x :: xs,y::ys,az,bs,b,hm,h1,h2=>by
   cases x<;>cases y<;>simp only[Ek]at hm<;>try cases hm
   split at hm
   ·rename_i he _
    subst he
    split at hm
    ·rename_i r hr
     cases hm
     simp only [bg,vr]at h1 h2
     obtain ⟨_,az,rfl,rfl,h1⟩:=h1
     obtain ⟨_,bs,rfl,rfl,h2⟩:=h2
     simp only [bN,amW,Hi hr h1 h2,abW]
    ·cases hm
   ·cases hm
theorem Ry {isMax:Bool} {KA:ak->Prop}:∀ {xs:List V} {x z:V} {az:List ak} {a:ak},mmV isMax x xs=some z->vr w0 lh ν x a->bg w0 lh ν xs az->(∀ r,vr w0 lh ν z r->KA r)->mm2 isMax a az KA
 | [],x,z,az,a,hm,h1,h2,hK=>by
   simp only [bg]at h2;subst h2
   cases x<;>(simp only[mmV]at hm;cases hm;unfold mm2;exact hK a h1)
 | y::xs,x,z,az,a,hm,h1,h2,hK=>by
   cases x<;>try (simp[mmV]at hm;done)
   cases y<;>simp only[mmV]at hm<;>try cases hm
   split at hm
   ·rename_i he _
    subst he
    simp only [bg,vr]at h1 h2
    obtain ⟨_,az,rfl,rfl,h2⟩:=h2
    subst h1
    unfold mm2
    exact ⟨rfl,Ry hm (by simp only[vr]) h2 hK⟩
   ·cases hm
theorem XY {op:BinOp} {k:IntKind} {x y:Int} {K:V->T α} {KA:ak->Prop} (hc:ctx=true) (hs:bu LP (Ss ctx op k x y K) Q) (hK:∀ v a,vr w0 ν.z ν v a->bu LP (K v) Q->KA a):rY op k x y KA:=by
 cases op<;>simp only[Ss]at hs<;>simp only[rY]
 case quo=>obtain⟨h1,h2⟩:=eY hc hs;exact⟨h1,hK _ _ (by simp only[vr]) h2⟩
 case rem=>obtain⟨h1,h2⟩:=eY hc hs;exact⟨h1,hK _ _ (by simp only[vr]) h2⟩
 case shl=>obtain⟨h1,h2⟩:=eY hc hs;exact⟨h1,hK _ _ (by simp only[vr]) h2⟩
 case shr=>obtain⟨h1,h2⟩:=eY hc hs;exact⟨h1,hK _ _ (by simp only[vr]) h2⟩
 all_goals first|exact hs.elim|exact hK _ _ (by simp only[vr]) hs
theorem MK {op:BinOp} {x y:V} {a b:ak} {K:V->T α} {KA:ak->Prop} (hc:ctx=true) (h1:vr w0 ν.z ν x a) (h2:vr w0 ν.z ν y b) (hs:bu LP (B4 ctx op x y K) Q) (hK:∀ v a,vr w0 ν.z ν v a->bu LP (K v) Q->KA a):Rr op a b KA:=by
 unfold B4 at hs
 split at hs
 ·simp only [vr]at h1 h2;subst h1 h2
  split at hs
  ·rename_i he _;subst he
   exact ⟨rfl,XY hc hs hK⟩
  ·exact hs.elim
 ·simp only[vr]at h1 h2;subst h1 h2
  simp only [Rr]
  split at hs
  ·exact hK _ _ (by simp only[vr]) hs
  ·exact hK _ _ (by simp only[vr]) hs
  ·obtain⟨g1,g2⟩:=eY hc hs;exact⟨g1,hK _ _ (by simp only[vr]) g2⟩
  ·exact hs.elim
 ·exact hs.elim
theorem nF {v:V} {a:ak} {b:Bool} (hv:vr w0 lh ν v a) (hb:nu v=some b):a=.bool b:=by
 cases v<;>simp only[nu]at hb<;>cases hb<;>(simp only[vr]at hv;exact hv)
theorem vz {cs ds:List V} {off:Nat} {a:ak} (hv:vr w0 ν.z ν (.pd cs) a) (hd:rA off cs=some ds):∃ p,a=.ptr (some p)/\vr w0 ν.z ν (.pd ds) (.ptr (some (p.add off))):=by
 simp only [vr]at hv
 obtain ⟨p,az,rfl,h1,h2,h3⟩:=hv
 obtain ⟨g1,rfl⟩:=vm hd
 refine ⟨p,rfl,?_⟩
 simp only [vr]
 have:=HZ (i:=off) (m:=cs.length-off) (lh:=ν.z) h2 (by omega) (lA _)
 refine ⟨_,_,rfl,by cases p<;>exact h1,by rw[aph];exact this,?_,List.all_eq_true.2 fun x hx=>List.all_eq_true.1 h3.2 x (List.mem_of_mem_drop hx)⟩
 have hl:=rl h2
 rw [ajO (by simp;omega)]
 exact fN off h3.1
theorem iK (y d:Nat) (K:Nat->Prop):bnd none y d K=K d:=rfl
theorem zC {xs:List V} {v:V} (hs:Ym h xs v=some h'):∃ k o,h'=h.set k o/\ba h k:=by
 unfold Ym at hs
 split at hs
 ·rename_i k off
  rw [be]at hs
  split at hs
  ·rename_i cs ty hk
   split at hs
   ·cases hs;exact⟨k,_,gK _ _ _,dM hk⟩
   ·cases hs
  ·cases hs
 ·rename_i k i j
  rw [be]at hs
  split at hs
  ·rename_i e n f ty hk
   cases hb:Nat.ble (j+bI xs) e with
   |true=>rw[hb]at hs;cases hs;exact⟨k,_,gK _ _ _,fY hk⟩
   |false=>rw[hb]at hs;cases hs
  ·cases hs
 ·cases hs
theorem ZR {xs:List V} {v:V} (hs:Ym h xs v=some h'):h'.length=h.length:=by
 obtain ⟨k,o,rfl,_⟩:=zC hs;simp
theorem Ts {xs:List V} {v:V} {j:Nat} (hs:Ym h xs v=some h') (hj:ba h' j):ba h j:=by
 obtain ⟨k,o,rfl,hk⟩:=zC hs
 rcases rp hj with h1|rfl
 ·exact h1
 ·exact hk
theorem SA:∀ (xs ys cs:List ak) (o:Nat),wr cs o (xs++ys)=wr (wr cs o xs) (o+xs.length) ys
 |[],ys,cs,o=>by simp[wr]
 |x::xs,ys,cs,o=>by simp only[api,wr,adM];rw[SA xs ys,show o+1+xs.length=o+(xs.length+1) by omega]
theorem LZ (n:Nat) (z:List ak):(List.replicate (n+1) z).flatten=(List.replicate n z).flatten++z:=by
 rw [List.replicate_succ',List.flatten_append];simp
theorem DV {α:Type}:∀ (l z:List α),l.length=z.length->qv l 0 z=some z
 |[],[],_=>rfl
 |[],_::_,h=>by cases h
 |_::_,[],h=>by cases h
 |x::l,y::z,h=>by simp only[qv];rw[DV l z (by simpa using h)]
theorem adW (hh:HR w0 ν nV nS h lh) {k e n' off:Nat} {f:aL} {ty:TypeId} {z:List V} {za:List ak} (hk:h[k]? = some (.gl e n' f ty)) {b c:Nat} (hν:ν k=some (some (b,c,e))) (hz:bg w0 ν.z ν z za) (ho:lX e z=true) :
 ∀ n,off+n<=n'->∃ cs,lh[b]? = some (.cells cs ty)/\off*e+n*e<=cs.length/\HR w0 ν nV nS (h.set k (.gl e n' (fun i=>cond (Nat.ble off i&&Nat.blt i (off+n)) z (f i)) ty)) (lh.set b (.cells (wr cs (off*e) (List.replicate n za).flatten) ty)):=by
 have hb:=hh.blk k _ hk
 have hoz:=ho
 simp only [lX,aaw]at hoz
 have hzl:z.length=e:=by have:=aax hoz.1;rwa [bG]at this
 have hza:za.length=e:=by rw[bC hz,hzl]
 rcases hb with ⟨h1,_⟩|⟨b',c',az,h1,h2,h3,h4,h5⟩
 ·rw[hν]at h1;cases h1
 rw [hν]at h1
 obtain ⟨rfl,rfl⟩:b=b'/\c=c':=by simpa using h1
 intro n
 induction n with
 | zero =>
   intro hn
   refine ⟨az,h2,by rw[h3,Nat.zero_mul,ajZ];exact abt e (by omega),?_⟩
   have e1:(fun i=>cond (Nat.ble off i&&Nat.blt i (off+0)) z (f i))=f:=by
    funext i
    have:(Nat.ble off i&&Nat.blt i (off+0))=false:=by
     cases h6:Nat.ble off i with
     |false=>rfl
     | true =>
       have h7:=aaF h6
       cases hb:Nat.blt i (off+0) with
       |false=>rfl
       |true=>have:=aaF hb;omega
    rw [this];rfl
   rw [e1]
   have e2:h.set k (.gl e n' f ty)=h:=by
    apply agE; intro j;rw[aaZ];split
    ·rename_i e;subst e;obtain⟨q1,q2⟩:=List.getElem?_eq_some_iff.1 hk;simp[q1,q2]
    ·rfl
   have e3:lh.set b (.cells (wr az (off*e) (List.replicate 0 za).flatten) ty)=lh:=by
    apply agE; intro j;rw[aaZ];split
    ·rename_i e;subst e;obtain⟨q1,q2⟩:=List.getElem?_eq_some_iff.1 h2;simp[q1,q2,wr]
    ·rfl
   rw [e2,e3];exact hh
 | succ n ih =>
   intro hn
   obtain ⟨cs,g1,g2,g3⟩:=ih (by omega)
   have hkl:k<h.length:=(List.getElem?_eq_some_iff.1 hk).1
   have hbl:b<lh.length:=(List.getElem?_eq_some_iff.1 h2).1
   have hst:Ym (h.set k (.gl e n' (fun i=>cond (Nat.ble off i&&Nat.blt i (off+n)) z (f i)) ty)) z (.pe k (off+n) 0)=some (h.set k (.gl e n' (fun i=>cond (Nat.ble off i&&Nat.blt i (off+(n+1))) z (f i)) ty)):=by
    have hfl:(cond (Nat.ble off (off+n)&&Nat.blt (off+n) (off+n)) z (f (off+n))).length=z.length:=by
     have hf:=(h5 (off+n) (by omega)).1
     simp only [lX,aaw]at hf
     have:=aax hf.1
     rw [bG]at this
     cases (Nat.ble off (off+n)&&Nat.blt (off+n) (off+n)) with
     |true=>rfl
     |false=>show(f (off+n)).length=_;rw[this,hzl]
    simp only [Ym]
    rw [be,aaZ,aby rfl,aby hkl]
    dsimp only
    have hw:=Ou (hfl.trans hzl) 0 z
    rw [DV _ _ hfl]at hw
    unfold wrE at hw
    cases hble:Nat.ble (0+bI z) e with
    |false=>rw[hble]at hw;cases hw
    |true =>
    rw [hble]at hw
    simp only [cond_true,aaB]at hw ⊢
    rw [gK,List.set_set]
    congr 3
    funext i
    unfold Xq
    rw [hw]
    cases hi:Nat.beq i (off+n) with
    | true =>
      have:=aax hi
      subst this
      have h1:Nat.ble off (off+n)=true:=adr (by omega)
      have h2:Nat.blt (off+n) (off+(n+1))=true:=adr (by omega)
      rw [h1,h2];rfl
    | false =>
      have hne:i≠off+n:=fun e=>by subst e;rw[apl]at hi;cases hi
      have : Nat.blt i (off+(n+1))=Nat.blt i (off+n):=by
       cases hb:Nat.blt i (off+n) with
       |true=>have:=aaF hb;exact adr (by omega)
       | false =>
         cases hb2:Nat.blt i (off+(n+1)) with
         |false=>rfl
         | true =>
           have h7:=aaF hb2
           have:Nat.blt i (off+n)=true:=adr (by omega)
           rw [this]at hb;cases hb
      rw [this];rfl
   rw [h2]at g1;cases g1
   obtain ⟨b2,o2,cs2,ty2,k2,c2,e2',e1,e2,e3,e4,e5,e6⟩:=P8 g3 (v:=.pe k (off+n) 0) (a:=.ptr (some (.l b ((off+n)*e+0)))) (by simp only[vr];exact⟨b,c,e,hν,rfl⟩) hz hoz.2 hst (fun k1 i1 j1 he e3 n3 f3 ty3 h6=>by
    cases he
    rw [aaZ,aby rfl,aby hkl]at h6;cases h6;omega)
   obtain ⟨rfl,rfl⟩:b=b2/\(off+n)*e+0=o2:=by simpa using e1
   rw [aaZ,aby rfl,aby hbl]at e2
   cases e2
   refine ⟨az,h2,by rw[oW]at e3;rw[adm];rw[ajW]at e3;omega,?_⟩
   rw [LZ,SA]
   have hfl:(List.replicate n za).flatten.length=n*e:=by simp[hza]
   rw [hfl]
   rw [List.set_set]at e4
   rw [ajZ,ajW]at e4
   exact e4
theorem A3 {cf:CF α} {md:Bool} {pl plA:Option Nat} {op:kj} {K:V->List O->T α} {KA:ak->List ao->Prop} {wn:List Nat} (hsl:fL w0 ν N e sl) (hh:HR w0 ν nV nS h lh) (hc:ctx=true) (hcf:su w0 S LP md cf)
 (hp:plR nV nS pl plA) (hop:md=true->∃ l,opW h e pl op=some l/\∀ k,k∈l->k∈wn) (hs:bu LP (Bq cf ctx pl op e h K) Q)
 (hK:∀ v h' ν' a lh',(md=true->ya ν ν' wn pl plA h h' lh lh')->(kD op=true->ν'=ν/\h'=h/\lh'=lh)->ν.sub ν'->HR w0 ν' nV nS h' lh'->vr w0 ν'.z ν' v a->bu LP (K v h') Q->KA a lh'):cQ w0 S sl lh plA KA op:=by
 have hK0:∀ v a,vr w0 ν.z ν v a->bu LP (K v h) Q->KA a lh:=fun v a hv hs=>hK v h ν a lh (fun _=>ya.refl _ _ _ _ _ _) (fun _=>⟨rfl,rfl,rfl⟩) (Nu.sub_refl ν) hh hv hs
 have hplace:∀ {o:O} {az:List ak} {ty:TypeId} {KP:Nat->List O->T α} {F:Nat->ak} {c ez:Nat},(md=true->∃ p,pl=some p)->kD op=false->o ≠ .dead->(∀ p b lh',lh'[b]? = some (.cells az ty)->ν p=none->El w0 (xT ν p (some (b,c,ez))) nV nS lh' p o) ->
  bu LP (fp pl h o KP) Q->(∀ p b h' lh',ν p=none->HR w0 (xT ν p (some (b,c,ez))) nV nS h' lh'->bu LP (KP p h') Q->∃ v,vr w0 ν.z (xT ν p (some (b,c,ez))) v (F b)/\bu LP (K v h') Q)->place plA lh (.cells az ty) fun b lh'=>KA (F b) lh':=by
  intro o az ty KP F c ez hpl hst hnd hb hs hk
  refine Dy hh hp hnd hb hs fun p b h' lh' hch hp' hr hs'=>?_
  obtain ⟨v,hv,hsv⟩:=hk p b h' lh' hp' hr hs'
  refine hK v h' _ _ lh' (fun hm=>?_) (fun e=>by rw[hst]at e;cases e) (jF hp') hr hv hsv
  obtain ⟨p',hp''⟩:=hpl hm
  rcases hch with ⟨g,_⟩|⟨e1,e2,e3,e4,_⟩
  ·rw[hp'']at g;cases g
  ·exact ya.put e1 e2 e3 e4
 have hplN:∀ {z:List Nat},opW h e pl op=some z->(match pl with|some p=>some [p]|none=>none:Option (List Nat))=some z->∃ p,pl=some p:=by
  intro z _ hz
  cases pl with
  |none=>cases hz
  |some p=>exact⟨p,rfl⟩
 cases op<;>simp only[Bq]at hs<;>simp only[cQ]
 case mov x =>
  obtain ⟨u,h1,h2⟩:=yab hsl hc hs
  exact hK0 _ _ h1 h2
 case pick c a b =>
  obtain ⟨u,h1,h2⟩:=yab hsl hc hs
  split at h2
  ·simp only[vr]at h1;rw[h1]
   obtain ⟨v,g1,g2⟩:=yab hsl hc h2
   exact ⟨fun _=>hK0 _ _ g1 g2,fun e=>by cases e⟩
  ·simp only[vr]at h1;rw[h1]
   obtain ⟨v,g1,g2⟩:=yab hsl hc h2
   exact ⟨(fun e=>by cases e),fun _=>hK0 _ _ g1 g2⟩
  ·rename_i c
   simp only [vr]at h1;rw[h1]
   subst hc
   have ha:∀ {x:V} {KK:V->T α} {a:fi} {cc:Bool},bu LP (gV (true&&cc) (dj e a) KK) Q->∃ u,(cc=true->vr w0 ν.z ν u (arg sl a))/\bu LP (KK u) Q:=by
    intro x KK a cc hs
    have hv:=hsl.arg a
    unfold gV at hs
    split at hs
    ·rename_i b u hb
     rw [hb]at hv
     simp only [bu]at hs
     simp only [vr]at hv
     exact ⟨u,fun e=>hv.1 (by subst e;simpa using hs.1),hs.2⟩
    ·exact⟨_,fun _=>hv,hs⟩
   obtain ⟨x,g1,h3⟩:=ha (x:=.any) h2
   obtain ⟨y,g2,h4⟩:=ha (x:=.any) h3
   split at h4
   ·rename_i z hz
    have hm:=agD (a:=arg sl a) (b:=arg sl b) c hz g1 (fun e=>g2 (by simp[e]))
    refine ⟨fun e=>?_,fun e=>?_⟩
    ·subst e;exact hK0 _ _ (by simpa using hm) h4
    ·subst e;exact hK0 _ _ (by simpa using hm) h4
   ·simp only[bu]at h4
    exact ⟨fun e=>hK0 _ _ (g1 e) (h4.1 e),fun e=>hK0 _ _ (g2 (by simp[e])) (h4.2 e)⟩
  ·simp only[bu]at h2
   exact absurd (h2.1 hc) (by decide)
  ·exact h2.elim
 case new ty z =>
  refine hplace (o:=.cells (z.map H3) ty) (c:=0) (ez:=0) (F:=fun b=>.ptr (some (.l b 0))) (fun hm=>?_) rfl (by simp) (fun p b lh' hb hp'=>⟨b,0,0,z,fw _ _ _,hb,oZ z⟩) hs (fun p b h' lh' hp' hr hs'=>⟨_,?_,hs'⟩)
  ·obtain⟨l,g,_⟩:=hop hm;exact hplN g g
  ·simp only[vr];exact⟨b,0,0,fw _ _ _,rfl⟩
 case box ty x =>
  obtain ⟨u,h1,h2⟩:=yab hsl hc hs
  cases hf:u.flat with
  |false=>rw[hf]at h2;exact h2.elim
  | true =>
    rw [hf]at h2
    simp only [cond_true]at h2
    obtain ⟨g1,g2⟩:=wg h1 hf
    refine ⟨g1,hplace (o:=.cells u.cells ty) (c:=0) (ez:=0) (F:=fun b=>.ptr (some (.l b 0))) (fun hm=>?_) rfl (by simp) (fun p b lh' hb hp'=>⟨b,0,0,_,fw _ _ _,hb,jW (jF hp') _ _ g2⟩) h2 (fun p b h' lh' hp' hr hs'=>⟨_,?_,hs'⟩)⟩
    ·obtain⟨l,g,_⟩:=hop hm;exact hplN g g
    ·simp only[vr];exact⟨b,0,0,fw _ _ _,rfl⟩
 case agg z ps =>
  exact td hsl hc (oZ z) hs fun cs az g1 g2=>hK0 _ _ (by simp only[vr];exact⟨az,rfl,g1⟩) g2
 case bsl ty n z ps =>
  refine td hsl hc (oZ z) hs fun cs az g1 g2=>?_
  refine hplace (o:=.cells cs ty) (c:=0) (ez:=0) (F:=fun b=>.slice (some (.l b 0)) n n) (fun hm=>?_) rfl (by simp) (fun p b lh' hb hp'=>⟨b,0,0,az,fw _ _ _,hb,jW (jF hp') _ _ g1⟩) g2 (fun p b h' lh' hp' hr hs'=>⟨_,?_,hs'⟩)
  ·obtain⟨l,g,_⟩:=hop hm;exact hplN g g
  ·simp only[vr];exact⟨b,0,0,fw _ _ _,rfl⟩
 case ld a =>
  obtain ⟨u,h1,h2⟩:=yab hsl hc hs
  obtain ⟨hpe,h3⟩:=uY hc h2
  split at h3
  ·rename_i v hv
   obtain ⟨p,x,g1,g2,g3⟩:=yaF hh h1 hv hpe
   rw [g1]
   exact ⟨x,g2,hK0 _ _ g3 h3⟩
  ·exact h3.elim
 case lds n a =>
  obtain ⟨u,h1,h2⟩:=yab hsl hc hs
  obtain ⟨hpe,h3⟩:=uY hc h2
  split at h3
  ·rename_i v hv
   obtain ⟨p,x,g1,g2,g3⟩:=JX hh h1 hv hpe
   rw [g1]
   exact ⟨x,g2,hK0 _ _ (by simp only[vr];exact⟨x,rfl,g3⟩) h3⟩
  ·exact h3.elim
 case st n a x =>
  obtain ⟨u,h1,h2,hnm⟩:=Dd hc (hsl.arg a) hs
  obtain ⟨v,h3,h4⟩:=yab hsl hc h2
  obtain ⟨hpe,h5⟩:=uY hc h4
  cases hf:(v.flat&&Nat.beq (bI v.cells) n) with
  |false=>rw[hf]at h5;exact h5.elim
  | true =>
    rw [hf]at h5
    simp only [cond_true]at h5
    simp only [aaw]at hf
    obtain ⟨g1,g2⟩:=wg h3 hf.1
    have g3:=aax hf.2
    rw [bG]at g3
    split at h5
    ·rename_i h' hst
     obtain ⟨b,off,cs,ty,k,c,ez,e1,e2,e3,e4,e5,e6⟩:=P8 hh h1 g2 (Gj hf.1) hst hpe
     rw [e1]
     have hl:=bC g2
     refine ⟨cs,ty,e2,g1,by omega,by omega,hK _ _ ν _ _ (fun hm=>?_) (fun e=>by cases e) (Nu.sub_refl ν) e4 (by simp only[vr,bg];exact⟨[],rfl,rfl⟩) h5⟩
     obtain ⟨l,q1,q2⟩:=hop hm
     simp only [opW]at q1
     have:=hnm _ _ q1
     subst this
     rw [e5]at q1;cases q1
     refine ⟨by simp,fun j _ hj=>by rw[aaZ,aaT (hj k _ (q2 k ahE) e6)],fun _ _ h=>.inl h,?_,?_,rfl⟩
     ·exact ZR hst
     ·exact fun j hj=>.inl (Ts hst hj)
    ·exact h5.elim
 case nz x =>
  obtain ⟨u,h1,h2⟩:=yab hsl hc hs
  split at h2
  ·simp only[vr]at h1;obtain⟨b,c,ez,g1,g2⟩:=h1;rw[g2];exact hK0 _ _ (by simp only[vr];exact⟨b,c,ez,g1,rfl⟩) h2
  ·simp only[vr]at h1;obtain⟨b,c,ez,g1,g2⟩:=h1;rw[g2];exact hK0 _ _ (by simp only[vr];exact⟨b,c,ez,g1,rfl⟩) h2
  ·simp only[vr]at h1;obtain⟨p,az,g1,g2,g3,g4⟩:=h1;rw[g1];exact hK0 _ _ (by simp only[vr];exact⟨p,az,rfl,g2,g3,g4⟩) h2
  ·simp only[vr]at h1;obtain⟨us,vs,g1,g2,g3⟩:=h1;rw[g1];exact hK0 _ _ (by simp only[vr];exact⟨us,vs,rfl,g2,g3⟩) h2
  ·exact h2.elim
 case bin op x y =>
  obtain ⟨u,h1,h2⟩:=yab hsl hc hs
  obtain ⟨v,h3,h4⟩:=yab hsl hc h2
  exact MK hc h1 h3 h4 fun v a hv hs=>hK0 v a hv hs
 case eqa neg n x y =>
  obtain ⟨u,h1,h2⟩:=yab hsl hc hs
  obtain ⟨v,h3,h4⟩:=yab hsl hc h2
  split at h4
  ·rename_i xs ys
   simp only [vr]at h1 h3
   obtain ⟨az,g1,g2⟩:=h1
   obtain ⟨bs,g3,g4⟩:=h3
   rw [g1,g3]
   split at h4
   ·rename_i b hb
    cases hn:Nat.beq (bI xs) n with
    |false=>rw[hn]at h4;exact h4.elim
    | true =>
      rw [hn]at h4
      have:=aax hn
      rw [bG]at this
      exact ⟨by rw[bC g2];exact this,b,Hi hb g2 g4,hK0 _ _ (by simp only[vr]) h4⟩
   ·exact h4.elim
  ·exact h4.elim
 case eqb neg x y =>
  obtain ⟨u,h1,h2⟩:=yab hsl hc hs
  obtain ⟨v,h3,h4⟩:=yab hsl hc h2
  split at h4
  ·rename_i a b ha hb
   rw [nF h1 ha,nF h3 hb]
   exact hK0 _ _ (by simp only[vr]) h4
  ·exact h4.elim
 case un op x =>
  obtain ⟨u,h1,h2⟩:=yab hsl hc hs
  split at h2
  ·simp only[vr]at h1;rw[h1];exact hK0 _ _ (by simp only[vr]) h2
  ·simp only[vr]at h1;rw[h1];exact hK0 _ _ (by simp only[vr]) h2
  ·simp only[vr]at h1;rw[h1];exact hK0 _ _ (by simp only[vr]) h2
  ·exact h2.elim
 case conv k x =>
  obtain ⟨u,h1,h2⟩:=yab hsl hc hs
  split at h2
  ·simp only[vr]at h1;rw[h1];exact hK0 _ _ (by simp only[vr]) h2
  ·exact h2.elim
 case mkf f xs ys =>
  split at hs
  ·obtain⟨us,g1,g2⟩:=kE hsl hc hs
   obtain ⟨vs,g3,g4⟩:=kE hsl hc g2
   exact hK0 _ _ (by simp only[vr];exact⟨_,_,rfl,g1,g3⟩) g4
  ·exact hs.elim
 case fa off x =>
  obtain ⟨u,h1,h2⟩:=yab hsl hc hs
  split at h2
  ·simp only[vr]at h1;obtain⟨b,c,ez,g1,g2⟩:=h1;rw[g2];exact hK0 _ _ (by simp only[vr];exact⟨b,c,ez,g1,rfl⟩) h2
  ·simp only[vr]at h1;obtain⟨b,c,ez,g1,g2⟩:=h1;rw[g2];exact hK0 _ _ (by simp only[vr];exact⟨b,c,ez,g1,by simp[gR.add,aoY]⟩) h2
  ·split at h2
   ·rename_i ds hd
    obtain ⟨p,g1,g2⟩:=vz h1 hd
    rw [g1];exact hK0 _ _ g2 h2
   ·exact h2.elim
  ·exact h2.elim
 case fld off n x =>
  obtain ⟨u,h1,h2⟩:=yab hsl hc hs
  split at h2
  ·simp only [vr]at h1;obtain⟨az,g1,g2⟩:=h1;rw[g1]
   split at h2
   ·rename_i n
    split at h2
    ·rename_i ds hd
     obtain ⟨q1,rfl⟩:=rM hd
     exact hK0 _ _ (by simp only[vr];exact⟨_,rfl,gN n (fN off g2)⟩) h2
    ·exact h2.elim
   ·split at h2
    ·rename_i v hv
     rw [be]at hv
     obtain ⟨a,q1,q2⟩:=mN g2 hv
     exact ⟨a,q1,hK0 _ _ q2 h2⟩
    ·exact h2.elim
  ·exact h2.elim
 case iaA n esz x ix =>
  obtain ⟨u,h1,h2⟩:=yab hsl hc hs
  obtain ⟨v,h3,h4⟩:=yab hsl hc h2
  split at h4
  ·simp only[vr]at h1 h3;obtain⟨b,c,ez,g1,g2⟩:=h1;rw[g2,h3]
   obtain ⟨⟨q1,q2⟩,q3⟩:=eY hc h4
   exact ⟨q1,q2,hK0 _ _ (by simp only[vr];exact⟨b,c,ez,g1,rfl⟩) q3⟩
  ·simp only[vr]at h1 h3;obtain⟨b,c,ez,g1,g2⟩:=h1;rw[g2,h3]
   obtain ⟨⟨q1,q2⟩,q3⟩:=eY hc h4
   exact ⟨q1,q2,hK0 _ _ (by simp only[vr];exact⟨b,c,ez,g1,by simp[gR.add,aoY]⟩) q3⟩
  ·simp only [vr]at h3
   split at h4
   ·rename_i ds hd
    obtain ⟨p,g1,g2⟩:=vz h1 hd
    rw [g1,h3]
    obtain ⟨⟨q1,q2⟩,q3⟩:=eY hc h4
    exact ⟨q1,q2,hK0 _ _ g2 q3⟩
   ·exact h4.elim
  ·exact h4.elim
 case iaS esz x ix =>
  obtain ⟨u,h1,h2⟩:=yab hsl hc hs
  obtain ⟨v,h3,h4⟩:=yab hsl hc h2
  split at h4
  ·rename_i n f _ i
   simp only [vr]at h1 h3
   obtain ⟨p,c,ez,g1,g2,g3,g4,g5⟩:=h1
   rw [g1,h3]
   cases hn:Nat.beq (bI (f i.toNat)) esz with
   |false=>rw[hn]at h4;exact h4.elim
   | true =>
     rw [hn]at h4
     have hl:=aax hn
     rw [bG]at hl
     obtain ⟨⟨q1,q2⟩,q3⟩:=eY hc h4
     obtain ⟨q,az,k1,k2,k3⟩:=g5 i.toNat (by omega)
     subst k1
     have hez:ez=esz:=by have:=rl k2;have:=bC k3.1;omega
     subst hez
     refine ⟨q1,q2,q,rfl,hK0 _ _ ?_ q3⟩
     simp only [vr]
     exact ⟨_,az,rfl,ybi k2,by rw[hl];exact k2,k3⟩
  ·simp only[vr]at h1 h3;obtain⟨b,c,ez,g1,g2⟩:=h1;rw[g2,h3]
   obtain ⟨⟨q1,q2⟩,q3⟩:=eY hc h4
   exact ⟨q1,q2,_,rfl,hK0 _ _ (by simp only[vr];exact⟨b,c,ez,g1,rfl⟩) q3⟩
  ·rename_i k n _ i
   rw [be]at h4
   split at h4
   ·rename_i ez n' f ty hk
    cases hn:Nat.beq ez esz with
    |false=>rw[hn]at h4;exact h4.elim
    | true =>
      rw [hn]at h4
      have hl:=aax hn
      subst hl
      obtain ⟨⟨q1,q2,q3⟩,q4⟩:=eY hc h4
      simp only [vr]at h1 h3
      rw [h3]
      rcases h1 with ⟨g1,g2,g3⟩|⟨b,c,e',g1,g2,_⟩
      ·omega
      ·rw [g2]
       refine ⟨q1,q2,_,rfl,hK0 _ _ ?_ q4⟩
       simp only [vr]
       rcases hh.blk k _ hk with ⟨k1,_⟩|⟨b2,c2,az,k1,_⟩
       ·rw[g1]at k1;cases k1
       ·rw[g1]at k1
        obtain ⟨rfl,rfl,rfl⟩:b=_/\c=_/\e'=_:=by simpa using k1
        exact ⟨b,c,e',g1,by simp[gR.add]⟩
   ·exact h4.elim
  ·rename_i k off n _ i
   rw [be]at h4
   split at h4
   ·rename_i ez n' f ty hk
    cases hn:Nat.beq ez esz with
    |false=>rw[hn]at h4;exact h4.elim
    | true =>
      rw [hn]at h4
      have hl:=aax hn
      subst hl
      obtain ⟨⟨q1,q2,q3⟩,q4⟩:=eY hc h4
      simp only [vr]at h1 h3
      rw [h3]
      rcases h1 with ⟨g1,g2,g3⟩|⟨b,c,e',o,g1,g2,_,g4⟩
      ·omega
      ·rw [g2,g4 (by omega)]
       refine ⟨q1,q2,_,rfl,hK0 _ _ ?_ q4⟩
       simp only [vr]
       rcases hh.blk k _ hk with ⟨k1,_⟩|⟨b2,c2,az,k1,_⟩
       ·rw[g1]at k1;cases k1
       ·rw[g1]at k1
        obtain ⟨rfl,rfl,rfl⟩:b=_/\c=_/\e'=_:=by simpa using k1
        exact ⟨b,c,e',g1,by simp[gR.add,ajW]⟩
   ·exact h4.elim
  ·obtain⟨⟨q1,q2⟩,_⟩:=eY hc h4
   omega
  ·exact h4.elim
 case ixA n esz sz x ix =>
  obtain ⟨u,h1,h2⟩:=yab hsl hc hs
  obtain ⟨v,h3,h4⟩:=yab hsl hc h2
  split at h4
  ·simp only [vr]at h1 h3;obtain⟨az,g1,g2⟩:=h1;rw[g1,h3]
   split at h4
   ·rename_i sz
    split at h4
    ·rename_i ds hd
     obtain ⟨⟨q1,q2⟩,q3⟩:=eY hc h4
     obtain ⟨_,rfl⟩:=rM hd
     exact ⟨q1,q2,hK0 _ _ (by simp only[vr];exact⟨_,rfl,gN sz (fN _ g2)⟩) q3⟩
    ·exact h4.elim
   ·split at h4
    ·rename_i w hw
     rw [be]at hw
     obtain ⟨⟨q1,q2⟩,q3⟩:=eY hc h4
     obtain ⟨a,k1,k2⟩:=mN g2 hw
     exact ⟨q1,q2,a,k1,hK0 _ _ k2 q3⟩
    ·exact h4.elim
  ·exact h4.elim
 case ixS x ix =>
  obtain ⟨u,h1,h2⟩:=yab hsl hc hs
  obtain ⟨v,h3,h4⟩:=yab hsl hc h2
  split at h4
  ·simp only[vr]at h1 h3;rw[h1,h3]
   obtain ⟨⟨q1,q2⟩,q3⟩:=eY hc h4
   exact ⟨q1,q2,hK0 _ _ (by simp only[vr]) q3⟩
  ·exact h4.elim
 case len x =>
  obtain ⟨u,h1,h2⟩:=yab hsl hc hs
  split at h2
  ·simp only[vr]at h1;obtain⟨p,c,ez,g1,_,g3,_⟩:=h1;rw[g1];exact hK0 _ _ (by simp only[vr]) (h2 fun _=>g3)
  ·simp only[vr]at h1;obtain⟨p,c,ez,g1,g2⟩:=h1;rw[g2];exact hK0 _ _ (by simp only[vr]) h2
  ·simp only[vr]at h1
   rcases h1 with ⟨g1,g2,g3⟩|⟨b,c,e',g1,g2,_⟩
   ·rw[g3];subst g2;exact hK0 _ _ (by simp only[vr]) h2
   ·rw[g2];exact hK0 _ _ (by simp only[vr]) h2
  ·simp only[vr]at h1;rw[h1];exact hK0 _ _ (by simp only[vr];rfl) h2
  ·simp only[vr]at h1
   rcases h1 with ⟨g1,g2,g3,g4⟩|⟨b,c,e',o,g1,g2,_⟩
   ·rw[g4];subst g2;exact hK0 _ _ (by simp only[vr]) h2
   ·rw[g2];exact hK0 _ _ (by simp only[vr]) h2
  ·exact h2.elim
 case lenT x =>
  obtain ⟨u,h1,h2⟩:=yab hsl hc hs
  split at h2
  ·simp only[vr]at h1;rw[h1];exact hK0 _ _ (by simp only[vr]) h2
  ·exact h2.elim
 case lenA n=>exact hK0 _ _ (by simp only[vr]) hs
 case mm b x xs =>
  obtain ⟨u,h1,h2⟩:=yab hsl hc hs
  obtain ⟨us,h3,h4⟩:=kE hsl hc h2
  split at h4
  ·rename_i v hv
   exact Ry hv h1 h3 fun r hr=>hK0 _ _ hr h4
  ·exact h4.elim
 case ext x i =>
  obtain ⟨u,h1,h2⟩:=yab hsl hc hs
  split at h2
  ·simp only [vr]at h1;obtain⟨az,g1,g2⟩:=h1;rw[g1]
   split at h2
   ·rename_i v hv
    rw [be]at hv
    obtain ⟨a,q1,q2⟩:=mN g2 hv
    exact ⟨a,q1,hK0 _ _ q2 h2⟩
   ·exact h2.elim
  ·exact h2.elim
 case slS esz x lo hi mx =>
  obtain ⟨u,h1,h2⟩:=yab hsl hc hs
  obtain ⟨lo',l1,h3⟩:=kz hsl hc h2
  obtain ⟨hi',l2,h4⟩:=kz hsl hc h3
  obtain ⟨mx',l3,h5⟩:=kz hsl hc h4
  split at h5
  ·rename_i n f
   split at h5
   ·simp only [vro]at l3
    rw [l3]
    simp only [vr]at h1
    obtain ⟨p,c,ez,g1,g2,g3,g4,g5⟩:=h1
    rw [g1]
    cases hz:Nat.beq (bI (f 0)) esz with
    |false=>rw[hz]at h5;exact h5.elim
    | true =>
      rw [hz]at h5
      simp only [cond_true]at h5
      have hz:=aax hz
      rw [bG]at hz
      dsimp only
      rw [iK]
      refine sZ (x:=hi') (y:=n) g2 (dV hc l2 h5 fun b hb1 hb2 h6=>?_)
      have hbn:b<=n:=by
       by_cases e1:hi'=none
       ·have:=hb1 e1;omega
       ·exact hb2 e1
      refine dV hc l1 h6 fun a ha1 ha2 h7=>hK0 _ _ ?_ h7
      have hab:a<=b:=by
       by_cases e1:lo'=none
       ·have:=ha1 e1;omega
       ·exact ha2 e1
      simp only [vr]
      refine ⟨_,c-a,esz,rfl,by omega,by omega,?_,fun i hi=>?_⟩
      ·split
       ·exact g4
       ·cases p with
        |none=>trivial
        | some q=>cases q with
          | l k o =>
            obtain ⟨cs,ty,q1,q2⟩:=g4
            refine ⟨cs,ty,q1,?_⟩
            by_cases ha0:a=0
            ·subst ha0;simpa using q2
            ·obtain ⟨q0,as0,j1,j2,j3⟩:=g5 0 (by omega)
             have hez:ez=esz:=by have:=rl j2;have:=bC j3.1;omega
             obtain ⟨q3,as3,m1,m2,_⟩:=g5 (a-1) (by omega)
             cases m1
             simp only [gR.add,lds,q1]at m2
             split at m2
             ·rename_i hle
              have h3:a*ez=(a-1)*ez+ez:=by rw[← adm];congr 1;omega
              show o+a*esz<=cs.length
              rw [← hez];omega
             ·cases m2
          |g ad=>trivial
      ·obtain⟨q,az,k1,k2,k3⟩:=g5 (a+i) (by omega)
       obtain ⟨q0,as0,j1,j2,j3⟩:=g5 0 (by omega)
       have hez:ez=esz:=by have:=rl j2;have:=bC j3.1;omega
       subst hez
       refine ⟨q.add (a*ez),az,?_,?_,k3⟩
       ·rw[aaT (by omega),k1];rfl
       ·rw[yat,← ajW];exact k2
   ·exact h5.elim
  ·rename_i k n
   split at h5
   ·simp only [vro]at l1 l3
    rw [l1,l3]
    simp only [vr]at h1
    rcases h1 with ⟨g1,g2,g3⟩|⟨b,c,e',g1,g2,g3⟩
    ·rw [g3]
     subst g2
     dsimp only
     rw [iK]
     refine dV hc l2 h5 fun b hb1 hb2 h6=>?_
     have hb:b=0:=by
      by_cases e1:hi'=none
      ·exact hb1 e1
      ·have:=hb2 e1;omega
     subst hb
     rw [iK]
     exact hK0 _ _ (zN g1) h6
    ·rw [g2]
     dsimp only
     rw [iK]
     refine sZ (x:=hi') (y:=n) g3 (dV hc l2 h5 fun b' hb1 hb2 h6=>?_)
     have hbn:b'<=n:=by
      by_cases e1:hi'=none
      ·have:=hb1 e1;omega
      ·exact hb2 e1
     rw [iK]
     refine hK0 _ _ ?_ h6
     simp only [vr]
     refine .inr ⟨b,c,e',g1,?_,by omega⟩
     simp [gR.add]
   ·rename_i lo2
    rw [be]at h5
    split at h5
    ·rename_i e2 n2 f2 ty2 hk
     cases hn:Nat.beq e2 esz with
     |false=>rw[hn]at h5;exact h5.elim
     | true =>
       rw [hn]at h5
       simp only [cond_true]at h5
       have:=aax hn
       subst this
       simp only [vro]at l3
       rw [l3]
       simp only [vr]at h1
       rcases h1 with ⟨g1,g2,g3⟩|⟨b,c,e',g1,g2,g3⟩
       ·rw [g3]
        subst g2
        dsimp only
        rw [iK]
        refine dV hc l2 h5 fun b hb1 hb2 h6=>?_
        have hb:b=0:=by
         by_cases e1:hi'=none
         ·exact hb1 e1
         ·have:=hb2 e1;omega
        subst hb
        refine dV hc l1 h6 fun a ha1 ha2 h7=>hK0 _ _ ?_ h7
        have ha:a=0:=by have:=ha2 (by simp);omega
        subst ha
        simp only [vr]
        exact .inl ⟨g1,trivial,trivial,by simp⟩
       ·rw [g2]
        dsimp only
        rw [iK]
        refine sZ (x:=hi') (y:=n) g3 (dV hc l2 h5 fun b' hb1 hb2 h6=>?_)
        have hbn:b'<=n:=by
         by_cases e1:hi'=none
         ·have:=hb1 e1;omega
         ·exact hb2 e1
        refine dV hc l1 h6 fun a ha1 ha2 h7=>hK0 _ _ ?_ h7
        have hab:a<=b':=ha2 (by simp)
        have he:e'=e2:=by
         rcases hh.blk k _ hk with ⟨k1,_⟩|⟨b2,c2,az,k1,_⟩
         ·rw[g1]at k1;cases k1
         ·rw[g1]at k1;simp at k1;exact k1.2.2
        subst he
        simp only [vr]
        by_cases hm:c=a
        ·refine .inr ⟨b,c,e',0,g1,by rw[aby hm],⟨by omega,acK _⟩,fun h0=>by omega⟩
        ·refine .inr ⟨b,c,e',a*e',g1,by rw[aaT hm];simp[gR.add],⟨by omega,abt _ (by omega)⟩,fun _=>rfl⟩
    ·exact h5.elim
   ·exact h5.elim
  ·rename_i k o n c
   simp only [vr]at h1
   obtain ⟨b,c',e',g1,g2⟩:=h1
   rw [g2]
   refine dV hc l3 h5 fun m _ _ h6=>dV hc l2 h6 fun b' _ _ h7=>dV hc l1 h7 fun a _ _ h8=>hK0 _ _ ?_ h8
   simp only [vr]
   refine ⟨b,c',e',g1,?_⟩
   unfold Xa
   by_cases hm:m=a
   ·subst hm;simp
   ·rw [aaT hm]
    have:Nat.beq m a=false:=by
     cases hb:Nat.beq m a with
     |false=>rfl
     |true=>exact(hm (aax hb)).elim
    rw [this];simp[gR.add]
  ·split at h5
   ·simp only [vro]at l3
    rw [l3]
    simp only [vr]at h1
    rw [h1]
    dsimp only
    rw [iK]
    refine dV hc l2 h5 fun b hb1 hb2 h6=>?_
    have hb:b=0:=by
     by_cases e1:hi'=none
     ·exact hb1 e1
     ·have:=hb2 e1;omega
    subst hb
    refine dV hc l1 h6 fun a ha1 ha2 h7=>?_
    have ha:a=0:=by
     by_cases e1:lo'=none
     ·exact ha1 e1
     ·have:=ha2 e1;omega
    subst ha
    exact hK0 _ _ (by simp only[vr];rfl) h7
   ·exact h5.elim
  ·exact h5.elim
 case slA n esz x lo hi mx =>
  obtain ⟨u,h1,h2⟩:=yab hsl hc hs
  obtain ⟨lo',l1,h3⟩:=kz hsl hc h2
  obtain ⟨hi',l2,h4⟩:=kz hsl hc h3
  obtain ⟨mx',l3,h5⟩:=kz hsl hc h4
  split at h5
  ·rename_i k o
   simp only [vr]at h1
   obtain ⟨b,c',e',g1,g2⟩:=h1
   rw [g2]
   refine dV hc l3 h5 fun m _ _ h6=>dV hc l2 h6 fun b' _ _ h7=>dV hc l1 h7 fun a _ _ h8=>hK0 _ _ ?_ h8
   simp only [vr]
   refine ⟨b,c',e',g1,?_⟩
   unfold Xa
   by_cases hm:m=a
   ·subst hm;simp
   ·rw [aaT hm]
    have:Nat.beq m a=false:=by
     cases hb:Nat.beq m a with
     |false=>rfl
     |true=>exact(hm (aax hb)).elim
    rw [this];simp[gR.add]
  ·exact h5.elim
 case slT x lo hi =>
  obtain ⟨u,h1,h2⟩:=yab hsl hc hs
  obtain ⟨lo',l1,h3⟩:=kz hsl hc h2
  obtain ⟨hi',l2,h4⟩:=kz hsl hc h3
  split at h4
  ·simp only[vr]at h1
   rw [h1]
   exact dV hc l2 h4 fun b' _ _ h7=>dV hc l1 h7 fun a _ _ h8=>hK0 _ _ (by simp only[vr]) h8
  ·exact h4.elim
 case app ty esz bytes z s x =>
  obtain ⟨u,h1,h2,hnm⟩:=Dd hc (hsl.arg s) hs
  obtain ⟨v,h3,h4⟩:=yab hsl hc h2
  cases hz:Nat.beq (bI z) esz with
  |false=>rw[hz]at h4;exact h4.elim
  | true =>
    rw [hz]at h4
    have hz:=aax hz
    rw [bG]at hz
    refine VR hh hp h1 h3 hz h4 fun v h' ν' a lh' hch g1 g2 g3 g4=>hK v h' ν' a lh' (fun hm=>?_) (fun e=>by cases e) g1 g2 g3 g4
    obtain ⟨l,q1,q2⟩:=hop hm
    simp only [opW]at q1
    split at q1
    ·rename_i l0 p hl0
     cases q1
     have:=hnm _ _ hl0
     subst this
     have hpa:plA≠none:=by
      rcases hp with ⟨g,_⟩|⟨_,_,g⟩
      ·cases g
      ·rw[g];simp
     exact hch hpa wn fun l hn k hk=>q2 k (by rw[hl0]at hn;cases hn;exact adx _ hk)
    ·cases q1
 case mks ty n cs =>
  refine hplace (o:=.cells (cs.map H3) ty) (c:=0) (ez:=0) (F:=fun b=>.slice (some (.l b 0)) n n) (fun hm=>?_) rfl (by simp) (fun p b lh' hb hp'=>⟨b,0,0,cs,fw _ _ _,hb,oZ cs⟩) hs (fun p b h' lh' hp' hr hs'=>⟨_,?_,hs'⟩)
  ·obtain⟨l,g,_⟩:=hop hm;exact hplN g g
  ·simp only[vr];exact⟨b,0,0,fw _ _ _,rfl⟩
 case call f xs =>
  obtain ⟨us,h1,h2⟩:=kE hsl hc hs
  exact hcf f us h K Q ν nV nS _ lh KA h1 hh h2 fun v h' ν' a lh' hm=>hK v h' ν' a lh' (fun h=>by obtain⟨e1,e2,e3⟩:=hm h;subst e1 e2 e3;exact ya.refl _ _ _ _ _ _) (fun e=>by cases e)
 case isn neg x =>
  obtain ⟨u,h1,h2⟩:=yab hsl hc hs
  split at h2
  ·simp only[vr]at h1;rw[h1];exact hK0 _ _ (by simp only[vr];cases neg<;>rfl) h2
  ·simp only[vr]at h1;obtain⟨b,c,ez,g1,g2⟩:=h1;rw[g2];exact hK0 _ _ (by simp only[vr];cases neg<;>rfl) h2
  ·simp only [vr]at h1
   obtain ⟨p,c,ez,g1,g2,g3,g4,g5⟩:=h1
   rw [g1]
   simp only [bu]at h2
   cases p with
   | none=>exact hK0 _ _ (by simp only[vr];cases neg<;>rfl) (h2.1 (by
      rename_i n f
      cases n with
      |zero=>rfl
      |succ n=>obtain⟨q,az,k1,_⟩:=g5 0 (by omega);cases k1))
   |some p=>exact hK0 _ _ (by simp only[vr];cases neg<;>rfl) h2.2
  ·simp only[vr]at h1
   simp only [bu]at h2
   rcases h1 with ⟨g1,g2,g3⟩|⟨b,c,e',g1,g2,_⟩
   ·rw[g3];exact hK0 _ _ (by simp only[vr];cases neg<;>rfl) (h2.1 g2)
   ·rw[g2];exact hK0 _ _ (by simp only[vr];cases neg<;>rfl) h2.2
  ·exact h2.elim
 case clr esz z x =>
  obtain ⟨u,h1,h2⟩:=yab hsl hc hs
  split at h2
  ·rename_i k off n
   rw [be]at h2
   split at h2
   ·rename_i e' n' f ty hk
    cases hb:(Nat.beq e' esz&&lX e' (z.map H3)) with
    |false=>rw[hb]at h2;exact h2.elim
    | true =>
      rw [hb]at h2
      simp only [cond_true,bu,abN]at h2
      simp only [aaw]at hb
      have:=aax hb.1
      subst this
      obtain ⟨⟨hn0,hle⟩,h3⟩:=h2
      simp only [vr]at h1
      rcases h1 with ⟨_,g2,_⟩|⟨b,c,e2,o,g1,g2,g3,g4⟩
      ·omega
      ·rw [g2,g4 hn0]
       have he:e2=e':=by
        rcases hh.blk k _ hk with ⟨k1,_⟩|⟨b2,c2,az,k1,_⟩
        ·rw[g1]at k1;cases k1
        ·rw[g1]at k1;simp at k1;exact k1.2.2
       subst he
       obtain ⟨cs,q1,q2,q3⟩:=adW (z:=z.map H3) (za:=z) hh hk g1 (oZ z) hb.2 n hle
       rw [gK]at h3
       refine ⟨cs,ty,q1,by omega,q2,hK _ _ ν _ _ (fun hm=>?_) (fun e=>by cases e) (Nu.sub_refl ν) q3 (by simp only[vr,bg];exact⟨[],rfl,rfl⟩) h3⟩
       obtain ⟨l,q4,_⟩:=hop hm
       cases q4
   ·exact h2.elim
  ·exact h2.elim
 case callv x xs =>
  obtain ⟨u,h1,h2⟩:=yab hsl hc hs
  obtain ⟨us,h3,h4⟩:=kE hsl hc h2
  split at h4
  ·simp only[vr]at h1;obtain⟨az,bs,g1,g2,g3⟩:=h1;rw[g1]
   rw [kO,kO]at h4
   exact hcf _ _ h K Q ν nV nS _ lh KA (ki (ki g2 h3) g3) hh h4 fun v h' ν' a lh' hm=>hK v h' ν' a lh' (fun h=>by obtain⟨e1,e2,e3⟩:=hm h;subst e1 e2 e3;exact ya.refl _ _ _ _ _ _) (fun e=>by cases e)
  ·exact h4.elim
end
end Go.Dx
