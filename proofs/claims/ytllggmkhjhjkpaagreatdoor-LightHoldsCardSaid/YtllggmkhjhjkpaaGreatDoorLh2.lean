/- Part 2 of a proof. No conditions. -/
import Derived.Test.YtllggmkhjhjkpaaGreatDoorLh1
import Derived.RangeFuncOwn
import Derived.RangeFuncNested
import Derived.Laws.Append
set_option maxRecDepth 100000
set_option linter.unusedVariables false
set_option linter.unusedSimpArgs false
namespace Go.Sx
inductive oF where|op (o:jq)|yld (t:Nat) (dst:Option Nat) (xs:List gq)|yldG (d:Nat) (want:Bool) (t:Nat) (dst:Option Nat) (xs:List gq)
inductive jv where|skip|reg (ops:List oF)|draw (ds:List jn)|drawY (ds:List jn) (xs:List oF)|seq (a b:jv)|cond (c:gq) (a b:jv)|block (id:Nat) (b:jv)|loop (b:jv)|exit (id:Nat)|ret|scope (b:jv)
structure jc where
 f:FuncId
 ntmps:Nat
 body:jv
inductive il where|skip|reg (ops:List jq)|draw (ds:List jn)|allo (t:OT)|alloq (t:OT)|seq (a b:il)|cond (c:gq) (a b:il)|block (id:Nat) (b:il)|loop (b:il)|exit (id:Nat)|ret|scope (b:il)|range (g:gq) (ps:List Nat) (asg body:il) (D7:List jc)
def tF (o:Oper):Option (Nat×List gq) :=
 match o.guard,o.op with
 |none,.call c=>match c.callee with|.value (.tmp t)=>some (t,c.args.toList.map bh)|_=>none
 |_,_=>none
def rp (ops:Array Oper) (o:Oper):Option (Nat×Bool×Nat×List gq) :=
 match o.guard,o.op with
 |some (j,want),.call c=>match c.callee,(ops[j]?).bind (·.dst) with|.value (.tmp t),some d=>some (d,want,t,c.args.toList.map bh)|_,_=>none
 |_,_=>none
def kS (P:Program) (BN:List TypeId) (ops:Array Oper):List Oper->Option (List oF)
 |[]=>some []
 |o::l=>match kS P BN ops l with
   |none=>none
   |some xs=>match tF o with
     |some (t,az)=>some (.yld t o.dst az::xs)
     |none=>match rp ops o with
       |some (d,want,t,az)=>some (.yldG d want t o.dst az::xs)
       |none=>match lG P BN ops o with|some x=>some (.op x::xs)|none=>none
def yE (ops:Array Oper):Nat->Nat->Array Bool->Bool
 |0,_,listed=>(Region.ready .any ops listed).isEmpty|f+1,k,listed=>Region.ready .any ops listed==[k]&&yE ops f (k+1) (listed.setIfInBounds k true)
def xw (n y:Nat):Array Bool:=((List.range n).map λi=>Nat.blt i y).toArray
def Gm (ops:Array Oper):Bool:=(List.range ops.size).all λi=>match ops[i]? with
 |some o=>o.after.toList.all λe=>!Region.binds .any e||Nat.blt e.on i
 |none=>true
def Pe (ops:Array Oper) (y:Nat):Bool:=((List.range y).all λj=>Gg ops ops.size y j)&&(List.range ops.size).all λk=>Nat.ble k y||Gg ops ops.size k y
def t8 (P:Program) (BN:List TypeId) (ops:Array Oper) (y:Nat):Option (List jn×List oF) :=
 match fZ P BN ops (ops.toList.take y),kS P BN ops (ops.toList.drop y) with
 | some xs,some D7=>if P.follows .mixedOrders&&rJ (ops.toList.take y).toArray (iT (ops.toList.take y).toArray xs (cS xs 0) xs 0)&&Aw (ops.toList.take y).toArray (iT (ops.toList.take y).toArray xs (cS xs 0) xs 0).length 0 (Array.replicate ops.size false)&&(iT (ops.toList.take y).toArray xs (cS xs 0) xs 0).length==y&&Nat.ble y ops.size &&
    (iT (ops.toList.take y).toArray xs (cS xs 0) xs 0).all (λd=>YW d.o.op||d.ws.isEmpty)&&Gm ops&&Pe ops y&&yE ops (ops.size-y) y (xw ops.size y) then some (iT (ops.toList.take y).toArray xs (cS xs 0) xs 0,D7) else none
 |_,_=>none
def x28 (ops:Array Oper):Option Nat:=ops.toList.findIdx? λo=>(tF o).isSome||(rp ops o).isSome
def kt (P:Program) (BN:List TypeId):Code->Option jv
 |.skip=>some .skip|.label _=>some .skip|.region _ ops false=>(kS P BN ops ops.toList).map .reg
 |.region _ ops true=>match x28 ops with|none=>(rG P BN ops).map .draw|some y=>(t8 P BN ops y).map λp=>.drawY p.1 p.2
 |.seq a b=>match kt P BN a,kt P BN b with|some x,some y=>some (.seq x y)|_,_=>none
 |.cond c a b=>match kt P BN a,kt P BN b with|some x,some y=>some (.cond (bh c) x y)|_,_=>none
 |.block id b=>(kt P BN b).map (.block id)|.loop b=>(kt P BN b).map .loop|.exit id=>some (.exit id)|.ret=>some .ret|.scope b=>(kt P BN b).map .scope|_=>none
def rT (P:Program) (BN:List TypeId) (fn:Func):Option (Nat×jv) :=
 match fn.body,fn.results.toList with
 |some c,[]=>(kt P BN c).map λx=>(fn.ntmps,x)
 |_,_=>none
def dl (P:Program) (BN:List TypeId) (D7:List jc):Code->Option il
 |.skip=>some .skip|.label _=>some .skip|.region _ ops false=>(fZ P BN ops ops.toList).map .reg
 |.region _ ops true=>match B7 P BN ops with
   |some t=>some (.allo t)
   |none=>match tH P BN ops with|some t=>some (.alloq t)|none=>(rG P BN ops).map .draw
 |.seq a b=>match dl P BN D7 a,dl P BN D7 b with|some x,some y=>some (.seq x y)|_,_=>none
 |.cond c a b=>match dl P BN D7 a,dl P BN D7 b with|some x,some y=>some (.cond (bh c) x y)|_,_=>none
 |.block id b=>(dl P BN D7 b).map (.block id)|.loop b=>(dl P BN D7 b).map .loop|.exit id=>some (.exit id)|.ret=>some .ret|.scope b=>(dl P BN D7 b).map .scope
 |.rangeFunc g ps a b=>match dl P BN D7 a,dl P BN D7 b with|some x,some y=>some (.range (bh g) ps.toList x y D7)|_,_=>none
 |_=>none
def vt (next:List af->List ar->Prop) (Qe:Ex->List af->List ar->Prop):Ex->List af->List ar->Prop
 |.normal,sl,lh=>next sl lh
 |.exit i,sl,lh=>Qe (.exit i) sl lh|.ret,sl,lh=>Qe .ret sl lh
def xc (id:Nat) (Qe:Ex->List af->List ar->Prop):Ex->List af->List ar->Prop
 |.normal,sl,lh=>Qe .normal sl lh|.exit i,sl,lh=>if i=id then Qe .normal sl lh else Qe (.exit i) sl lh
 |.ret,sl,lh=>Qe .ret sl lh
def Dw:List jc->FuncId->Option jc
 |[],_=>none|x::l,f=>if f=x.f then some x else Dw l f
def kj (l:Nat):af:=.raw (.func (.yield l) #[] #[])
def l9:List af->List Nat->List af->List af
 |sl,p::ps,x::xs=>l9 (sl.set p x) ps xs|sl,_,_=>sl
abbrev YH:=List af->List ar->(Ex->List ar->Prop)->Prop
abbrev IQ:=Ex->List af->List ar->Option Ex->Prop
def Yw (K:List af->List ar->Option Ex->Prop) (sl:List af) (d:Option Nat):Ex->List ar->Prop
 |.normal,lh=>K (fv sl d (.bool true)) lh none|x,lh=>K (fv sl d (.bool false)) lh (some x)
def cO (w0:World) (QZ:FuncId->b6) (l:Nat) (R6:YH):List oF->List af->List ar->Option Ex->(List af->List ar->Option Ex->Prop)->Prop
 |[],sl,lh,g,K=>K sl lh g|.op o::rest,sl,lh,g,K=>fN w0 QZ [o] sl lh λsl lh=>cO w0 QZ l R6 rest sl lh g K
 |.yld t d xs::rest,sl,lh,g,K=>g=none/\sl.getD t .any=kj l/\R6 (xs.map (arg sl)) lh (Yw (λsl lh g=>cO w0 QZ l R6 rest sl lh g K) sl d)
 |.yldG d want t dst xs::rest,sl,lh,g,K=>match sl.getD d .any with
   | .bool b=>(b=want->g=none/\(sl.set d (.bool want)).getD t .any=kj l/\R6 (xs.map (arg (sl.set d (.bool want)))) lh (Yw (λsl lh g=>cO w0 QZ l R6 rest sl lh g K) (sl.set d (.bool want)) dst)) /\
      (b=!want->cO w0 QZ l R6 rest (fv (sl.set d (.bool (!want))) dst (.tup [])) lh g K)
   |.tup vs=>cO w0 QZ l R6 rest (fv (sl.set d (.tup vs)) dst (.tup [])) lh g K|.int ..=>cO w0 QZ l R6 rest (fv sl dst (.tup [])) lh g K|_=>False
def aa2 (next:List af->List ar->Option Ex->Prop) (Qe:IQ):IQ
 |.normal,sl,lh,g=>next sl lh g
 |.exit i,sl,lh,g=>Qe (.exit i) sl lh g|.ret,sl,lh,g=>Qe .ret sl lh g
def xz (id:Nat) (Qe:IQ):IQ
 |.normal,sl,lh,g=>Qe .normal sl lh g|.exit i,sl,lh,g=>if i=id then Qe .normal sl lh g else Qe (.exit i) sl lh g
 |.ret,sl,lh,g=>Qe .ret sl lh g
def lJ (w0:World) (QZ:FuncId->b6) (l:Nat) (R6:YH):jv->List af->List ar->Option Ex->IQ->Prop
 |.skip,sl,lh,g,Qe=>Qe .normal sl lh g|.reg ops,sl,lh,g,Qe=>cO w0 QZ l R6 ops sl lh g (Qe .normal)|.draw ds,sl,lh,g,Qe=>nP w0 QZ ds sl lh λsl lh=>Qe .normal sl lh g
 |.drawY ds xs,sl,lh,g,Qe=>nP w0 QZ ds sl lh λsl lh=>cO w0 QZ l R6 xs sl lh g (Qe .normal)
 |.seq a b,sl,lh,g,Qe=>lJ w0 QZ l R6 a sl lh g (aa2 (λsl lh g=>lJ w0 QZ l R6 b sl lh g Qe) Qe)
 |.cond c a b,sl,lh,g,Qe=>match arg sl c with|.bool t=>(t=true->lJ w0 QZ l R6 a sl lh g Qe)/\(t=false->lJ w0 QZ l R6 b sl lh g Qe)|_=>False
 |.block id b,sl,lh,g,Qe=>lJ w0 QZ l R6 b sl lh g (xz id Qe)
 | .loop b,sl,lh,g,Qe=>∃ (ι:Type) (shs:ι->List af) (shl:ι->List ar) (shg:ι->Option Ex) (μ:ι->Nat) (i0:ι),sl=shs i0/\lh=shl i0/\g=shg i0 /\
    ∀i,lJ w0 QZ l R6 b (shs i) (shl i) (shg i) (aa2 (λsl' lh' g'=>∃i',sl'=shs i'/\lh'=shl i'/\g'=shg i'/\μ i'<μ i) Qe)
 |.exit id,sl,lh,g,Qe=>Qe (.exit id) sl lh g|.ret,sl,lh,g,Qe=>Qe .ret sl lh g|.scope b,sl,lh,g,Qe=>lJ w0 QZ l R6 b sl lh g Qe
def akl (Qe:Ex->List af->List ar->Prop) (sl:List af):IQ
 |.exit _,_,_,_=>False|_,_,lh,none=>Qe .normal sl lh|_,_,lh,some x=>Qe x sl lh
def cI (w0:World) (QZ:FuncId->b6) (nb:Nat):il->List af->List ar->(Ex->List af->List ar->Prop)->Prop
 |.skip,sl,lh,Qe=>Qe .normal sl lh|.reg ops,sl,lh,Qe=>fN w0 QZ ops sl lh (Qe .normal)|.draw ds,sl,lh,Qe=>nP w0 QZ ds sl lh (Qe .normal)|.allo t,sl,lh,Qe=>qp w0 QZ t sl lh (Qe .normal)|.alloq t,sl,lh,Qe=>qp w0 (yS QZ) t sl lh (Qe .normal)|.seq a b,sl,lh,Qe=>cI w0 QZ nb a sl lh (vt (λsl lh=>cI w0 QZ nb b sl lh Qe) Qe)
 |.cond c a b,sl,lh,Qe=>match arg sl c with|.bool t=>(t=true->cI w0 QZ nb a sl lh Qe)/\(t=false->cI w0 QZ nb b sl lh Qe)|_=>False
 |.block id b,sl,lh,Qe=>cI w0 QZ nb b sl lh (xc id Qe)
 | .loop b,sl,lh,Qe=>∃ (ι:Type) (shs:ι->List af) (shl:ι->List ar) (μ:ι->Nat) (i0:ι),Sub nb sl lh (shs i0) (shl i0) /\
    ∀i,cI w0 QZ nb b (shs i) (shl i) (vt (λsl' lh'=>∃i',Sub nb sl' lh' (shs i') (shl i')/\μ i'<μ i) Qe)
 |.exit id,sl,lh,Qe=>Qe (.exit id) sl lh|.ret,sl,lh,Qe=>Qe .ret sl lh|.scope b,sl,lh,Qe=>cI w0 QZ nb b sl lh Qe
 |.range g ps asg body D7,sl,lh,Qe=>match arg sl g with
   |.fn (.func f) [] ys=>match Dw D7 f with
     | some it=>∀ l,lJ w0 QZ l (λxs lh K=>xs.length=ps.length/\cI w0 QZ lh.length asg (l9 sl ps xs) lh (vt (λsl lh'=>cI w0 QZ lh.length body sl lh' λx _ lh=>K x lh) λ_ _ _=>False)) it.body
        (kj l::ys++List.replicate (it.ntmps-(ys.length+1)) .any) lh none (akl Qe sl)
     |none=>False
   |_=>False
def S5:Ex->Exit
 |.normal=>.normal|.exit i=>.exit i|.ret=>.ret
def ks (B:dB):List Deferred->World->Prop
 |[],_=>True|d::ds,w=>∃AT,d={ target:=.collected AT,args:=#[] }/\w.heap[AT]? = some (.deferred (some []))/\(B.wf.heap.size<=AT/\B.w0.heap.size<=AT)/\(∀d'∈ds,d'.target≠.collected AT)/\ks B ds w
theorem ks.keeps {B:dB} {w w':World} (W:∀ (AT:Nat) (o:Option (List Deferred)),w.heap[AT]? = some (Obj.deferred o)->w'.heap[AT]? = some (Obj.deferred o)):∀ {ds:List Deferred},ks B ds w->ks B ds w'
 |[],_=>trivial|_::_,⟨AT,M,N,h3,h4,h5⟩=>⟨AT,M,W _ _ N,h3,h4,ks.keeps W h5⟩
theorem ks.old {B:dB} {w:World} {AT:Nat}:∀ {ds:List Deferred},ks B ds w->(∀ o:Option (List Deferred),w.heap[AT]? ≠ some (Obj.deferred o))->∀ d'∈ds,d'.target≠.collected AT
 |[],_,_,d',hd=>by cases hd
 |d::ds,⟨D',M,N,_,_,h4⟩,hn,d',hd=>by
   rcases List.mem_cons.1 hd with rfl|hd
   ·rw[M];intro e;cases e;exact hn _ N
   ·exact ks.old h4 hn d' hd
theorem pi {B:dB} {w w':World} (W:KeepsOthers w w') {ds:List Deferred} (h:ks B ds w):ks B ds w':=h.keeps λAT _ hD=>W.same AT _ hD rfl
def SR (B:dB) (m:aH) (sl:List af) (lh:List ar) (a:Act) (w:World):Prop:=aB m sl a.tmps.toList/\ks B a.defers w/\bf B m lh w
def dB.at (B:dB) (m:aH) (lh:List ar) (w:World) (ds:List Deferred):dB:=⟨B.w0,w,λb=>∃k cs ty,lh[k]? = some (.cells cs ty)/\m k=some b,ds⟩
theorem bf.rebase {B:dB} {m:aH} {lh:List ar} {w:World} (h:bf B m lh w) (ds:List Deferred):bf (B.at m lh w ds) m lh w :=
 ⟨rfl,rfl,rfl,h.size,h.old,Em _,λ_ _ _=>rfl,λk cs ty W=>let ⟨b,vs,M,N,h3,h4,_⟩:=h.loc k cs ty W;⟨b,vs,M,N,h3,h4,.inr ⟨k,cs,ty,W,M⟩⟩,h.inj,h.dom,h.dead,h.rng⟩
theorem bf.withDs {B:dB} {m:aH} {lh:List ar} {w:World} (h:bf B m lh w) (ds:List Deferred):bf { B with ds:=ds } m lh w :=
 ⟨h.os,h.tape,h.output,h.size,h.old,h.fsize,h.kept,h.loc,h.inj,h.dom,h.dead,h.rng⟩
theorem bf.noDs {B:dB} {m:aH} {lh:List ar} {w:World} {ds:List Deferred} (h:bf { B with ds:=ds } m lh w):bf B m lh w :=
 ⟨h.os,h.tape,h.output,h.size,h.old,h.fsize,h.kept,h.loc,h.inj,h.dom,h.dead,h.rng⟩
theorem bf.unbase {B:dB} {m m':aH} {lh lh':List ar} {w w':World} {ds:List Deferred} (h:bf B m lh w) (h':bf (B.at m lh w ds) m' lh' w'):bf B m' lh' w'/\KeepsOthers w w':=by
 have hown:∀ b,(∃ k cs ty,lh[k]? = some (.cells cs ty)/\m k=some b)->B.wf.heap.size<=b∨B.own b:=λb ⟨k,cs,ty,M,N⟩=>by
  let ⟨b',vs,g1,_,_,_,g2⟩:=h.loc k cs ty M
  rw[N]at g1;cases g1;exact g2
 refine⟨⟨h'.os.trans h.os,h'.tape.trans h.tape,h'.output.trans h.output,h'.size,h'.old,HQ h.fsize h'.fsize,λb hb ho=>?_,λk cs ty W=>?_,h'.inj,h'.dom,h'.dead,h'.rng⟩,⟨h'.fsize,λk o W ho=>?_⟩⟩
 ·rw[h'.kept b (Ho hb h.fsize) (λhn=>by rcases hown b hn with M|M;exact absurd hb E;exact ho M)];exact h.kept b hb ho
 ·let ⟨b,vs,M,N,h3,h4,h5⟩:=h'.loc k cs ty W
  refine⟨b,vs,M,N,h3,h4,?_⟩;rcases h5 with h5|h5
  ·exact .inl (HQ h.fsize h5)
  ·exact hown b h5
 ·refine(h'.kept k (Array.getElem?_eq_some_iff.1 W).1 (λ⟨k',cs,ty,M,N⟩=>?_)).trans W
  let ⟨b',vs,g1,_,g3,_⟩:=h.loc k' cs ty M
  rw[N]at g1;cases g1;rw[W]at g3;cases g3;cases ho
def QC (B:dB) (nb:Nat) (lh0:List ar) (m0:aH) (w1:World) (Qe:Ex->List af->List ar->Prop) (e:Exit) (a:Act) (w:World):Prop :=
 ∃x sl lh m,e=S5 x/\SR B m sl lh a w/\oH nb lh0 m0 lh m/\KeepsOthers w1 w/\Qe x sl lh
section
variable {P:Program} {B:dB} {QZ:FuncId->b6} {BN:List TypeId} {F:Fence} {n nb:Nat}
theorem QC.of {lh0:List ar} {m0:aH} {lh:List ar} {m:aH} {w0 w1:World} {Qe Q':Ex->List af->List ar->Prop} {e:Exit} {a:Act} {w:World} (he:oH nb lh0 m0 lh m) (W:KeepsOthers w0 w1) (hq:∀ x sl lh,Qe x sl lh->Q' x sl lh)
 (h:QC B nb lh m w1 Qe e a w):QC B nb lh0 m0 w0 Q' e a w:=by
 let ⟨x,sl,lh',m',M,N,h3,h4,h5⟩:=h
 exact⟨x,sl,lh',m',M,N,he.trans h3,W.trans h4,hq _ _ _ h5⟩
theorem hel {c:Code} {Qe:Exit->Act->World->Prop} {a:Act} {w:World} (hQ:∀ l a w,¬ Qe (.goto l) a w) (h:c.wpIn F n P Qe a w):(Code.scope c).wpIn F n P Qe a w:=by
 intro b k cs X8 hb hr;have h0:(lone (b.atR a (.code (.scope c)::k)) cs w).fenced P F:=fenced_calm hb hr rfl;have hstep:∀{a:Act} {w:World},step P (lone (b.atR a (.code (.scope c)::k)) cs w)=.next (lone (b.atR a (.code c::.inScope c::k)) cs w):=λ{a w}=>step_lone_go (by simp[stepG,stepG.exec,Frame.atR]);have hend:∀{a:Act} {w:World},step P (lone (b.atR a (.inScope c::k)) cs w)=.next (lone (b.atR a k) cs w):=λ{a w}=>step_lone_go (by simp[stepG,stepG.exec,Frame.atR])
 let ⟨e,a₁,w₁,hq,harr⟩:=h b (.inScope c::k) cs X8 hb hr
 have hx:∀id,exitTo id (.inScope c::k)=exitTo id k:=λid=>by simp[exitTo]
 cases e with
 |normal=>exact⟨.normal,a₁,w₁,hq,.head h0 hstep (StepsIn.trans harr (.one (fenced_calm hb hr rfl) hend))⟩
 |exit id=>exact⟨.exit id,a₁,w₁,hq,λk' W=>.head h0 hstep (harr.1 k' (by rw[hx];exact W)),λW3 W=>let ⟨nzb5,g1,g2⟩:=harr.2 W3 (by rw[hx];exact W);⟨nzb5,g1,.head h0 hstep g2⟩⟩
 |goto l=>exact(hQ l _ _ hq).elim|ret=>exact⟨_,a₁,w₁,hq,.of_steps (.one h0 hstep) harr⟩|panic yas=>exact⟨_,a₁,w₁,hq,.of_steps (.one h0 hstep) harr⟩|outgrown=>exact⟨_,a₁,w₁,hq,.of_steps (.one h0 hstep) harr⟩
theorem hey {c:Code} {Qe:Exit->Act->World->Prop} {a:Act} {w:World} (RR:Nat->Act->World->Prop) (nz12:∃ k,RR k a w)
 (round:∀k a w,RR k a w->c.wpIn F n P (Exit.then (λa' w'=>∃k',k'<k/\RR k' a' w') Qe) a w):(Code.loop c).wpIn F n P Qe a w:=by
 intro b k cs X8 hb hr;have key:∀ j a w,RR j a w->∃ e a' w',Qe e a' w'/\ArrivesIn (Machine.fenced P F) P (lone (b.atR a (.code c::.inLoop c::k)) cs w) b k cs e a' w':=by
  intro j;induction j using Nat.strongRecOn with
  |_ j ih=>
    intro a w hI
    let ⟨e,a₁,w₁,hq,harr⟩:=round j a w hI b (.inLoop c::k) cs X8 hb hr
    cases e with
    |normal=>
      let ⟨k',Qw,hI₁⟩:=hq
      let ⟨yay,yaq,vrel,no11,harr₂⟩:=ih k' Qw a₁ w₁ hI₁
      exact⟨yay,yaq,vrel,no11,.of_steps (StepsIn.trans harr (.one (fenced_calm hb hr rfl) stepR_inLoop)) harr₂⟩
    |exit id=>exact⟨_,a₁,w₁,hq,.pass (x:=.inLoop c) rfl (λ_ _=>.inl av) harr⟩|goto l=>exact⟨_,a₁,w₁,hq,.pass (x:=.inLoop c) rfl (λ_ _=>.inl av) harr⟩|ret=>exact⟨_,a₁,w₁,hq,.pass (x:=.inLoop c) rfl (λ_ _=>.inl av) harr⟩|panic yas=>exact⟨_,a₁,w₁,hq,.pass (x:=.inLoop c) rfl (λ_ _=>.inl av) harr⟩|outgrown=>exact⟨_,a₁,w₁,hq,.pass (x:=.inLoop c) rfl (λ_ _=>.inl av) harr⟩
 let ⟨k0,h0⟩:=nz12
 let ⟨e,a',w',hq,harr⟩:=key k0 a w h0
 exact⟨e,a',w',hq,.of_steps (.one (fenced_calm hb hr rfl) stepR_loop) harr⟩
def JR:Ex->Code
 |.normal=>.skip|.exit i=>.exit i|.ret=>.ret
def Hp:Ex->Option Ex
 |.normal=>none|x=>some x
structure KB (l:Nat) (R2 W':World):Prop where
 size:R2.heap.size<=W'.heap.size
 same:∀(k:Nat) (o:Obj),k≠l->R2.heap[k]? = some o->o.isCells=false->W'.heap[k]? = some o
theorem KB.refl (l:Nat) (R2:World):KB l R2 R2:=⟨Em _,λ_ _ _ h _=>h⟩
theorem KB.keeps {l:Nat} {R0 R2 W':World} (h:KB l R0 R2) (k:KeepsOthers R2 W'):KB l R0 W':=⟨HQ h.size k.size,λi o hi ho hc=>k.same i o (h.same i o hi ho hc) hc⟩
theorem KB.put {l:Nat} {R0 R2:World} (h:KB l R0 R2) (o:Obj):KB l R0 (R2.putObj l o):=⟨by simpa using h.size,λi o' hi ho hc=>(World.putObj_heap_other hi).trans (h.same i o' hi ho hc)⟩
def IL (l:Nat) (rec:LoopState->Option Code->Loop) (g:Option Ex) (w:World):Prop:=w.heap[l]? = some (.loop (rec (if g.isNone then .ready else .done) (g.map JR)))
theorem bf.putObj {m:aH} {lh:List ar} {w:World} (h:bf B m lh w) {l:Nat} {o:Obj} (hl:w.heap[l]? = some o) (ho:o.isCells=false) (hf:B.wf.heap.size<=l) (h0:B.w0.heap.size<=l) (o':Obj):bf B m lh (w.putObj l o'):=by
 refine⟨h.os,h.tape,h.output,by simpa using h.size,λb hb=>(World.putObj_heap_other E).trans (h.old b hb),by simpa using h.fsize,λb hb ho=>(World.putObj_heap_other E).trans (h.kept b hb ho),λk cs ty W=>?_,h.inj,h.dom,h.dead,λk b W=>by simpa using h.rng k b W⟩
 let ⟨b,vs,M,N,h3,h4,h5⟩:=h.loc k cs ty W
 refine⟨b,vs,M,N,(World.putObj_heap_other (λe=>?_)).trans h3,h4,h5⟩;subst e;rw[hl]at h3;cases h3;cases ho
theorem EO {lh lh':List ar} {m m':aH} {w:World} (h:bf B m lh w) (he:oH lh.length lh m lh' m'):jB lh m lh' m':=by
 refine⟨λk b W=>he.1 k b ?_ W,λk W=>he.2 k (List.getElem?_eq_some_iff.1 W).1 W⟩;rcases Hl k lh.length with Qw|Ta
 ·exact Qw
 ·rw[h.dom k Ta]at W;cases W
structure IR (B:dB) (l:Nat) (rec:LoopState->Option Code->Loop) (W1:World) (lh0:List ar) (m0:aH) (m:aH) (sl:List af) (lh:List ar) (g:Option Ex) (a:Act) (w:World):Prop where
 vs:aB m sl a.tmps.toList
 df:a.defers=[]
 hh:bf B m lh w
 ext:jB lh0 m0 lh m
 rc:IL l rec g w
 kb:KB l W1 w
def YS (B:dB) (F:Fence) (n:Nat) (P:Program) (l:Nat) (rec:LoopState->Option Code->Loop) (W1:World) (lh0:List ar) (m0:aH) (R6:YH):Prop :=
 ∀ (m:aH) (lh:List ar) (w:World) (args:List af) (vs:List Value) (K:Ex->List ar->Prop),bf B m lh w->jB lh0 m0 lh m->IL l rec none w->KB l W1 w->aB m args vs->R6 args lh K ->
  ∃fn tmps asg body,(Instr.yield l vs.toArray).run P w=.ok (.round l fn tmps asg body) w/\RoundIn F (n-1) P l fn tmps asg body w λe w'=>∃x m' lh',e=.returned (.bool (Hp x).isNone)/\bf B m' lh' w'/\jB lh m lh' m'/\IL l rec (Hp x) w'/\KB l W1 w'/\K x lh'
section it
variable {l:Nat} {rec:LoopState->Option Code->Loop} {W1:World} {lh0:List ar} {m0:aH} {R6:YH}
def QI (B:dB) (l:Nat) (rec:LoopState->Option Code->Loop) (W1:World) (lh0:List ar) (m0:aH) (Qe:IQ) (e:Exit) (a:Act) (w:World):Prop :=
 ∃x sl lh m g,e=S5 x/\IR B l rec W1 lh0 m0 m sl lh g a w/\Qe x sl lh g
theorem IR.step {m m':aH} {sl sl':List af} {lh lh':List ar} {g:Option Ex} {a a':Act} {w w':World} (h:IR B l rec W1 lh0 m0 m sl lh g a w) (hs:kd (B.at m lh w []) m' sl' lh' a' w') (he:jB lh m lh' m'):IR B l rec W1 lh0 m0 m' sl' lh' g a' w':=by
 let ⟨M,N⟩:=h.hh.unbase hs.2.2
 exact⟨hs.1,hs.2.1,M,h.ext.trans he,N.same _ _ h.rc rfl,h.kb.keeps N⟩
theorem hk1 (hF:lk F) (hY:YS B F n P l rec W1 lh0 m0 R6) {Qe:Exit->Act->World->Prop} {next:Act->World->Prop} {o:Oper} {c:Call} {t:Nat} {sl:List af} {lh:List ar} {m:aH} {a:Act} {w:World} {K:Ex->List ar->Prop}
 (hs:IR B l rec W1 lh0 m0 m sl lh none a w) (VE:sl.getD t .any=kj l) (U:R6 ((c.args.toList.map bh).map (arg sl)) lh K) (ho:o.op=.call c) (hcal:c.callee=.value (.tmp t))
 (ih:∀x lh' m' a' w',IR B l rec W1 lh0 m0 m' (fv sl o.dst (.bool (Hp x).isNone)) lh' (Hp x) a' w'->K x lh'->next a' w'):o.wpIn F n P a w next Qe:=by
 refine⟨λf _=>hF.fn f,?_⟩;have hsem:o.semAt F.round a.eval=execOp a.eval o:=by
  unfold Oper.semAt;split
  ·rename_i Ur;rw[ho]at Ur;cases Ur
  ·rfl
 have ip13:a.eval (.tmp t)=.func (.yield l) #[] #[]:=by have:=nZ hs.vs t undef;rw[VE]at this;simp[kj,Dy]at this;simpa[Act.eval] using this
 let ⟨fn,tmps,asg,body,hrun,hround⟩:=hY m lh w _ _ _ hs.hh hs.ext hs.rc hs.kb (iD hs.vs c.args.toList) U
 have hexec:(execOp a.eval o).run P w=.ok (.round l fn tmps asg body) w:=by
  simp only[execOp,ho];rw[ae (a:={ target:=.fn (.yield l) #[],args:=#[]++c.args.map a.eval }) (w':=w) (by simp only[resolve,hcal,ip13];rfl)];simp only[invoke];have:#[]++c.args.map a.eval++#[]=(c.args.toList.map a.eval).toArray:=by apply Array.toList_inj.1;simp
  first
   |(rw[this];exact hrun)
   | (have e2:#[]++c.args.map a.eval=(c.args.toList.map a.eval).toArray:=by
       apply Array.toList_inj.1;simp
      rw[e2];exact hrun)
 rw[hsem,hexec,Oper.uponIn_round];refine⟨λe=>(by rw[hF.depth]at e;cases e),hround.mono λe w' ⟨x,m',lh',he,g1,g2,g3,g4,g5⟩=>?_⟩;subst he;have hp:∀ b,IR B l rec W1 lh0 m0 m' (fv sl o.dst (.bool b)) lh' (Hp x) (a.put o.dst (.bool b)) w':=λb=>by
  refine⟨?_,by cases o.dst<;>exact hs.df,g1,hs.ext.trans g2,g3,g4⟩;rw[yaz];cases o.dst with
  |none=>exact cW g2.1 _ _ hs.vs|some d=>exact kP d (cW g2.1 _ _ hs.vs) (by simp[Dy])
 refine ih x lh' m' _ w' ?_ g5;exact hp _
theorem mJ {ops:Array Oper} (hF:lk F) (hS:∀ f,(QZ f).Ok P f) (hE:∀ t∈BN,dw P t) (hY:YS B F n P l rec W1 lh0 m0 R6) {Qe:Exit->Act->World->Prop}:∀ (os:List Oper) (xs:List oF) (k:Nat) (sl:List af) (lh:List ar) (m:aH) (g:Option Ex) (a:Act) (w:World) (K:List af->List ar->Option Ex->Prop),
 (∀j,os[j]? = ops[k+j]?)->kS P BN ops os=some xs->cO B.w0 QZ l R6 xs sl lh g K->IR B l rec W1 lh0 m0 m sl lh g a w ->
 (∀sl' lh' m' g' a' w',IR B l rec W1 lh0 m0 m' sl' lh' g' a' w'->K sl' lh' g'->Qe .normal a' w')->wpOpsIn F n P ops Qe (List.range' k os.length) a w
 |[],xs,k,sl,lh,m,g,a,w,K,_,hc,U,hs,hQ=>by simp[kS,Et]at hc;subst hc;exact hQ _ _ _ _ _ _ hs U
 |o::os,xs,k,sl,lh,m,g,a,w,K,hl,hc,U,hs,hQ=>by
   have h0:ops[k]? = some o:=by simpa using(hl 0).symm
   have SJ:∀j,os[j]? = ops[k+1+j]? := λj=>by have:=hl (j+1);simpa[Ik,Js 1 j] using this
   simp[kS]at hc;split at hc
   ·cases hc
   ·rename_i xs' TS
    have ih:=λTB lh1 m1 g1 a1 w1 U hs=>mJ hF hS hE hY os xs' (k+1) TB lh1 m1 g1 a1 w1 K SJ TS U hs hQ;split at hc
    ·rename_i t az hy
     cases hc;simp[cO]at U;obtain⟨rfl,VE,U⟩:=U;unfold tF at hy;split at hy
     ·rename_i c hg ho
      split at hy
      ·rename_i t hcal;cases hy;simp[HC,JC,wpOpsIn,h0];rw[E5 (by simp[Region.wanted,hg])];exact hk1 hF hY hs VE U ho hcal λx lh' m' a' w' M N=>by cases x<;>exact ih _ _ _ _ _ _ N M
      ·cases hy
     ·cases hy
    ·split at hc
     ·rename_i d want t az hy
      cases hc;simp[cO]at U;unfold rp at hy;split at hy
      ·rename_i j nzb19 c hg ho
       split at hy
       ·rename_i t2 d2 hcal hd
        cases hy;simp[HC,JC,wpOpsIn,h0];have VD:kd (B.at m lh w []) m sl lh a w:=⟨hs.vs,hs.df,hs.hh.rebase []⟩
        let ⟨y1,y2,y3⟩:=rC (ops:=ops) hs.vs hd
        split at U
        ·rename_i b hb
         have hyb:=y1 b hb;have SS:=hs.step (gi VD hb) (jB.refl _ _);by_cases WY:b=want
         ·subst WY;obtain⟨rfl,VE,U⟩:=U.1 rfl;rw[E5 (by simp[Region.wanted,hg,hyb])];exact hk1 hF hY SS VE U ho hcal λx lh' m' a' w' M N=>by cases x<;>exact ih _ _ _ _ _ _ N M
         ·have WW:b=!want:=by cases b<;>cases want<;>simp_all
          rw[DX (by simp[Region.wanted,hg,hyb,WY])];refine⟨λf _=>hF.fn f,?_⟩;have hsr':=gi VD hb;rw[WW]at hsr';exact ih _ _ _ _ _ _ (U.2 WW) (hs.step (hsr'.put (aH.le_refl m) (hs.hh.rebase []) o.dst (by simp[Dy,aB,undef])) (jB.refl _ _))
        ·rename_i vs hb;rw[DX (by simp[Region.wanted,hg,y2 _ hb])];refine⟨λf _=>hF.fn f,?_⟩;exact ih _ _ _ _ _ _ U (hs.step ((gi VD hb).put (aH.le_refl m) (hs.hh.rebase []) o.dst (by simp[Dy,aB,undef])) (jB.refl _ _))
        ·rename_i hb;rw[DX (by simp[Region.wanted,hg,y3 _ _ hb])];refine⟨λf _=>hF.fn f,?_⟩;exact ih _ _ _ _ _ _ U (hs.step (VD.put (aH.le_refl m) (hs.hh.rebase []) o.dst (by simp[Dy,aB,undef])) (jB.refl _ _))
        ·exact U.elim
       ·cases hy
      ·cases hy
     split at hc
     ·rename_i x hx
      cases hc;simp[cO]at U;have iy18:∀ j,j<[o].length->[o][j]? = ops[k+j]? := λj hj=>by
       obtain rfl:j=0:=by simpa using hj
       simpa using hl 0
      have:=pA (n:=n) (ops:=ops) (B:=B.at m lh w []) (Qe:=Qe) hF (λf=>(hS f).sound) hE (List.range' (k+1) os.length) [o] [x] k sl lh m a w _ iy18 (by simp[fZ,hx]) U ⟨hs.vs,hs.df,hs.hh.rebase []⟩ (λsl' lh' m' a' w' M N h3=>ih _ _ _ _ _ _ h3 (hs.step M N));simpa[JC] using this
     ·cases hc
theorem hk' {ops:Array Oper} {Qe:Exit->Act->World->Prop}:∀ (f k fuel:Nat) (listed:Array Bool) (a:Act) (w:World),f<=fuel->yE ops f k listed=true->wpOpsIn F n P ops Qe (List.range' k f) a w->wpAnyIn F n P .any ops Qe fuel listed a w
 |0,k,fuel,listed,a,w,_,ht,h=>by
   have hr:Region.ready .any ops listed=[]:=by simpa[yE] using ht
   cases fuel with
   |zero=>exact⟨hr,h⟩|succ fuel=>exact⟨λ_=>h,λi hi=>by rw[hr]at hi;cases hi⟩
 |f+1,k,0,listed,a,w,hf,_,_=>by omega
 |f+1,k,fuel+1,listed,a,w,hf,ht,h=>by
   simp[yE,Eg,HX]at ht;refine⟨λe=>(by rw[ht.1]at e;cases e),λi hi=>?_⟩;rw[ht.1]at hi;obtain rfl:i=k:=by simpa using hi
   simp[JC,wpOpsIn_cons]at h;exact wpOpIn_mono (λa w h=>hk' f (i+1) fuel _ a w E ht.2 h) h
theorem Ak {n y:Nat} {RG:Array Bool} (hs:RG.size=n) (M:∀ i,i<y->RG.getD i false=true) (N:∀ i,y<=i->RG.getD i false=false):RG=xw n y:=by
 apply Array.ext
 ·simp[xw,hs]
 ·intro i hi Rk
  have e:RG.getD i false=RG[i]:=by simp[hi]
  simp[xw,List.getElem_toArray,List.getElem_map,List.getElem_range];rw[← e];by_cases hy:i<y
  ·rw[M i hy];simp[Nat.blt_eq,hy]
  ·rw[N i E];cases hb:Nat.blt i y with|false=>rfl|true=>exact(hy (by simpa[Nat.blt_eq] using hb)).elim
theorem hir {ops:Array Oper} (hb:Gm ops=true) {y:Nat} (hy:y<=ops.size) {RG:Array Bool} (hs:RG.size=ops.size) (hr:Region.ready .any (ops.toList.take y).toArray RG=[]):∀ i,i<y->RG.getD i false=true:=by
 intro i;induction i using Nat.strongRecOn with
 |ind i ih=>
   intro hi;apply Classical.byContradiction;intro SQ;have Qw:i<ops.size:=by omega
   have hm:i∈Region.ready .any (ops.toList.take y).toArray RG:=by
    refine mem_ready.2 ⟨?_,ops[i],?_,λe he im11=>?_⟩
    ·have:i<RG.size:=by omega
     simp[Og,MW this,LX]at SQ ⊢;simpa using SQ
    ·simp[hi,Qw]
    ·have M:=List.all_eq_true.1 hb i (by simpa using Qw)
     rw[MW Qw]at M;have N:=List.all_eq_true.1 M e (by simpa using he);rw[im11]at N;have h3:e.on<i:=by simpa[Nat.blt_eq] using N
     exact ih e.on h3 E
   rw[hr]at hm;cases hm
theorem hnw {ops:Array Oper} (hF:lk F) (hS:∀ f,(QZ f).Ok P f) (hE:∀ t∈BN,dw P t) {y H:Nat} {B:dB} {ds:List jn} {Ws:List (List Nat)} {xs:List jq} (hc:fZ P BN ops (ops.toList.take y)=some xs) (hd:∀ j:Nat,ds[j]?.map jn.o=xs[j]?)
 (hb:Gm ops=true) (hdep:Pe ops y=true) (hy:y<=ops.size) {K:List af->List ar->Prop} {Qe:Exit->Act->World->Prop} {lh0:List ar} {m0:aH} {r:Nat}
 (hQ:∀sl' lh' m' a' w' fuel,kd B m' sl' lh' a' w'->jB lh0 m0 lh' m'->K sl' lh'->r<=fuel->wpAnyIn F n P .any ops Qe fuel (xw ops.size y) a' w') :
 ∀(fuel:Nat) (listed:Array Bool) (sl:List af) (lh:List ar) (m:aH) (a:Act) (w:World),listed.size=ops.size->(∀i,y<=i->listed.getD i false=false)->gJ ops listed->kd B m sl lh a w->jB lh0 m0 lh m->Gc B.w0 QZ (ops.toList.take y).toArray ds Ws H K fuel listed sl lh->wpAnyIn F n P .any ops Qe (fuel+r) listed a w:=by
 intro fuel;induction fuel with
 |zero=>intro listed sl lh m a w Rs hl SE hs he h;rw[Ak Rs (hir hb hy Rs h.1) hl];exact hQ _ _ _ _ _ _ hs he h.2 E
 |succ fuel ih=>
   intro listed sl lh m a w Rs hl SE hs he h;by_cases hr:Region.ready .any (ops.toList.take y).toArray listed=[]
   ·rw[Ak Rs (hir hb hy Rs hr) hl];exact hQ _ _ _ _ _ _ hs he (h.1 hr) E
   ·let ⟨j,hj⟩:=List.exists_mem_of_ne_nil _ hr
    let ⟨sk,oj,VR,iy20⟩:=mem_ready.1 hj
    have hget:∀ i o,(ops.toList.take y).toArray[i]? = some o->i<y/\ops[i]? = some o:=λi o hi=>by
     simp only[LA,HW]at hi;split at hi
     ·rename_i Qw;exact⟨Qw,by simpa using hi⟩
     ·cases hi
    let ⟨iz10,hoj'⟩:=hget j oj VR
    have iy21:listed.getD j false=false:=by
     have:j<listed.size:=by rw[Rs];exact(Array.getElem?_eq_some_iff.1 hoj').1
     simp[Og,MW this,LX]at sk ⊢;exact sk
    have Sz:∀ i,i∈Region.ready .any ops listed->i<y/\i∈Region.ready .any (ops.toList.take y).toArray listed:=λi hi=>by
     let ⟨ix14,oi,U9,sb⟩:=mem_ready.1 hi
     unfold Pe at hdep;simp only[Eg]at hdep;have Qw:i<y:=by
      apply Classical.byContradiction;intro Ta;by_cases e:i=y
      ·subst e;have:=fX SE ops.size i oi U9 sb (List.all_eq_true.1 hdep.1 j (by simpa using iz10));rw[iy21]at this;cases this
      ·have M:=List.all_eq_true.1 hdep.2 i (by simpa using(Array.getElem?_eq_some_iff.1 U9).1)
       have N:Nat.ble i y=false:=by
        cases hb:Nat.ble i y with
        |false=>rfl|true=>have:=G2 hb;omega
       rw[N,Bool.false_or]at M;have:=fX SE ops.size i oi U9 sb M;rw[hl y (Em _)]at this;cases this
     exact⟨Qw,mem_ready.2 ⟨ix14,oi,by simpa[HW,Qw] using U9,sb⟩⟩
    rw[show fuel+1+r=(fuel+r)+1 by omega];refine⟨λe=>?_,λi hi=>?_⟩
    ·have hm:j∈Region.ready .any ops listed:=mem_ready.2 ⟨sk,oj,hoj',iy20⟩;have e':Region.ready .any ops listed=[]:=e;rw[e']at hm;cases hm
    ·have Rk:i∈Region.ready .any ops listed:=hi
     let ⟨iy17,si⟩:=Sz i Rk
     have N:=h.2 i si
     let ⟨_,o,ho,_⟩:=mem_ready.1 Rk
     let ⟨x,hx,V8⟩:=lY (ops.toList.take y) xs i o hc (by simpa[HW,iy17] using ho)
     have TY:=hd i;rw[hx]at TY;simp[Fy]at TY
     let ⟨d,U3,U4⟩:=TY
     unfold Dr at N;simp[U3]at N;rw[U4]at N;exact hl2 hF hS hE ho V8 hs N λsl' lh' m' a' w' h3 h4 h5=>ih _ sl' lh' m' a' w' (by simpa using Rs) (λk W=>by rw[getD_set_ne false E];exact hl k W) (ga SE Rk) h3 (he.trans h4) h5
theorem evAsm {ops:Array Oper} (hF:lk F) (hS:∀ f,(QZ f).Ok P f) (hE:∀ t∈BN,dw P t) (hY:YS B F n P l rec W1 lh0 m0 R6) {y id:Nat} {ds:List jn} {D7:List oF} (hc:t8 P BN ops y=some (ds,D7)) {sl:List af} {lh:List ar} {m:aH} {g:Option Ex} {a:Act} {w:World} {Qe:IQ}
 (hs:IR B l rec W1 lh0 m0 m sl lh g a w) (U:nP B.w0 QZ ds sl lh λsl lh=>cO B.w0 QZ l R6 D7 sl lh g (Qe .normal)):(Code.region id ops true).wpIn F n P (QI B l rec W1 lh0 m0 Qe) a w:=by
 unfold t8 at hc;split at hc
 ·rename_i xs its' TS hits
  split at hc
  ·rename_i hcond
   cases hc;simp only[Eg,HX]at hcond
   let ⟨⟨⟨⟨⟨⟨⟨⟨M,N⟩,h3⟩,h4⟩,h5⟩,h6⟩,h7⟩,h8⟩,h9⟩:=hcond
   have h5':=G2 h5;have hA:(ops.toList.take y).toArray.size=y:=by simp;omega
   let ⟨hw,ht⟩:=U
   have XB:Kz (iT (ops.toList.take y).toArray xs (cS xs 0) xs 0) (me B.w0 lh sl lh.length (iT (ops.toList.take y).toArray xs (cS xs 0) xs 0)):=λi d hd=>by
    refine⟨λYg=>?_,?_⟩
    ·unfold G8;rw[pZ,hd];have:=List.all_eq_true.1 h6 d (Jq hd);simp[Yg]at this;simp[this,uI]
    ·have:=oV (ds:=iT (ops.toList.take y).toArray xs (cS xs 0) xs 0) (iT (ops.toList.take y).toArray xs (cS xs 0) xs 0) 0 (λj=>by simp) hw i d (by simpa using hd);simpa using this
   generalize me B.w0 lh sl lh.length (iT (ops.toList.take y).toArray xs (cS xs 0) xs 0)=Ws at hw ht XB;refine wpIn_region_any M ?_;have SE:∀os:Array Oper,gJ os (Array.replicate ops.size false):=λos k o W=>by simp[Ks]at W;split at W<;>simp at W
   have hany:=nR hS XB N (h4.trans hA.symm) (iT (ops.toList.take y).toArray xs (cS xs 0) xs 0) 0 _ sl _ (λj=>by simp) h3 (SE _) ht;have hext:jB lh m (lh++List.replicate (QB (iT (ops.toList.take y).toArray xs (cS xs 0) xs 0)) .dead) m:=⟨aH.le_refl m,λk W=>⟨by rw[Fp (List.getElem?_eq_some_iff.1 W).1];exact W,rfl⟩⟩;rw[h4]at hany;have:=hnw (n:=n) (r:=ops.size-y) (B:=B.at m lh w []) (Qe:=QI B l rec W1 lh0 m0 Qe) hF hS hE TS (yt (ops.toList.take y).toArray xs (cS xs 0) xs 0) h7 h8 h5' (lh0:=lh) (m0:=m) (λsl' lh' m' a' w' fuel g1 g2 g3 g4=>by refine hk' (ops.size-y) y fuel _ a' w' g4 h9 ?_;have:=mJ (n:=n) (ops:=ops) (Qe:=QI B l rec W1 lh0 m0 Qe) hF hS hE hY (ops.toList.drop y) D7 y sl' lh' m' g a' w' (Qe .normal) (λj=>by simp) hits g3 (hs.step g1 g2) (λsl' lh' m' g' a' w' M h3=>⟨.normal,sl',lh',m',g',rfl,M,h3⟩);simpa using this) y (Array.replicate ops.size false) sl _ m a { w with drawn:=w.drawn+1 } av (λi _=>by simp[Ks];split<;>rfl) (SE ops) ⟨hs.vs,hs.df,((hs.hh.rebase []).deads _).drew _⟩ hext hany;rwa [show y+(ops.size-y)=ops.size by omega]at this
  ·cases hc
 ·cases hc
theorem hp1 (hF:lk F) (hS:∀ f,(QZ f).Ok P f) (hE:∀ t∈BN,dw P t) (hY:YS B F n P l rec W1 lh0 m0 R6):∀ (c:Code) (s:jv) (sl:List af) (lh:List ar) (m:aH) (g:Option Ex) (a:Act) (w:World) (Qe:IQ),
 kt P BN c=some s->IR B l rec W1 lh0 m0 m sl lh g a w->lJ B.w0 QZ l R6 s sl lh g Qe->c.wpIn F n P (QI B l rec W1 lh0 m0 Qe) a w:=by
 intro c;induction c with
 |skip=>intro s sl lh m g a w Qe hc hs U;cases hc;exact wpIn_skip ⟨.normal,sl,lh,m,g,rfl,hs,U⟩|label t=>intro s sl lh m g a w Qe hc hs U;cases hc;exact wpIn_label ⟨.normal,sl,lh,m,g,rfl,hs,U⟩
 |region id ops dr=>
   intro s sl lh m g a w Qe hc hs U;cases dr with
   |false=>simp[kt,Fy]at hc;obtain⟨xs,TS,rfl⟩:=hc;refine wpIn_region ?_;have:=mJ (n:=n) (ops:=ops) (Qe:=QI B l rec W1 lh0 m0 Qe) hF hS hE hY ops.toList xs 0 sl lh m g a w (Qe .normal) av TS U hs (λsl' lh' m' g' a' w' M h3=>⟨.normal,sl',lh',m',g',rfl,M,h3⟩);rwa [MZ,← Jo]
   |true=>
     simp[kt]at hc;split at hc
     ·simp[Fy]at hc;obtain⟨ds,Wv,rfl⟩:=hc;exact hfo (B:=B.at m lh w []) hF hS hE Wv ⟨hs.vs,hs.df,hs.hh.rebase []⟩ U (λsl' lh' m' a' w' M N h3=>⟨.normal,sl',lh',m',g,rfl,hs.step M N,h3⟩)
     ·simp only[Fy]at hc;obtain⟨⟨ds,D7⟩,Wv,rfl⟩:=hc;exact evAsm hF hS hE hY Wv hs U
 |seq x y ihx ihy=>
   intro s sl lh m g a w Qe hc hs U;simp[kt]at hc;split at hc
   ·rename_i sx sy hx hy
    cases hc;refine wpIn_seq (wpIn_mono (ihx sx sl lh m g a w _ hx hs U) λe a' w' hq=>?_);obtain⟨ex,sl',lh',m',g',rfl,M,h3⟩:=hq;cases ex with
    |normal=>exact ihy sy sl' lh' m' g' a' w' Qe hy M h3|exit i=>exact⟨.exit i,sl',lh',m',g',rfl,M,h3⟩|ret=>exact⟨.ret,sl',lh',m',g',rfl,M,h3⟩
   ·cases hc
 |cond c x y ihx ihy=>
   intro s sl lh m g a w Qe hc hs U;simp[kt]at hc;split at hc
   ·rename_i sx sy hx hy
    cases hc;simp[lJ]at U;have ha:=aW hs.vs c;split at U
    ·rename_i t ht;rw[ht]at ha;exact wpIn_cond_split (jx ha) (λe=>ihx sx sl lh m g a w Qe hx hs (U.1 e)) (λe=>ihy sy sl lh m g a w Qe hy hs (U.2 e))
    ·exact U.elim
   ·cases hc
 |block id x ih=>
   intro s sl lh m g a w Qe hc hs U;simp[kt,Fy]at hc;obtain⟨sx,hx,rfl⟩:=hc;refine wpIn_block (wpIn_mono (ih sx sl lh m g a w _ hx hs U) λe a' w' hq=>?_);obtain⟨ex,sl',lh',m',g',rfl,M,h3⟩:=hq;cases ex with
   |normal=>exact⟨.normal,sl',lh',m',g',rfl,M,h3⟩
   |exit i=>
     simp[S5,Exit.inBlock];simp[xz]at h3;split at h3
     ·rename_i e;rw[E5 e];exact⟨.normal,sl',lh',m',g',rfl,M,h3⟩
     ·rename_i e;rw[DX e];exact⟨.exit i,sl',lh',m',g',rfl,M,h3⟩
   |ret=>exact⟨.ret,sl',lh',m',g',rfl,M,h3⟩
 |loop x ih=>
   intro s sl lh m g a w Qe hc hs U;simp[kt,Fy]at hc;obtain⟨sx,hx,rfl⟩:=hc;simp[lJ]at U;obtain⟨ι,shs,shl,shg,μ,i0,rfl,rfl,rfl,hr⟩:=U;refine hey (λk a w=>∃i m',IR B l rec W1 lh0 m0 m' (shs i) (shl i) (shg i) a w/\μ i=k) ⟨_,i0,m,hs,rfl⟩ λk a w hI=>?_;obtain⟨i,m',hi,rfl⟩:=hI;refine wpIn_mono (ih sx (shs i) (shl i) m' (shg i) a w _ hx hi (hr i)) λe a' w' hq=>?_;obtain⟨ex,sl',lh',m2,g',rfl,M,h3⟩:=hq;cases ex with
   |normal=>obtain⟨i',rfl,rfl,rfl,Qw⟩:=h3;exact⟨_,Qw,i',m2,M,rfl⟩
   |exit j=>exact⟨.exit j,sl',lh',m2,g',rfl,M,h3⟩|ret=>exact⟨.ret,sl',lh',m2,g',rfl,M,h3⟩
 |exit id=>intro s sl lh m g a w Qe hc hs U;cases hc;exact wpIn_exit ⟨.exit id,sl,lh,m,g,rfl,hs,U⟩|ret=>intro s sl lh m g a w Qe hc hs U;cases hc;exact wpIn_ret ⟨.ret,sl,lh,m,g,rfl,hs,U⟩
 |scope x ih=>intro s sl lh m g a w Qe hc hs U;simp[kt,Fy]at hc;obtain⟨sx,hx,rfl⟩:=hc;exact hel (λt a w ⟨ex,_,_,_,_,h,_⟩=>by cases ex<;>cases h) (ih sx sl lh m g a w Qe hx hs U)
 |_=>intro s sl lh m g a w Qe hc;cases hc
end it
def JZ (tmps:Array Value):ResultVar->Sem Value
 |.tmp t=>pure (tmps.getD t undef)|.cell b t=>do loadVar t (← asAddr (tmps.getD b undef))
def uh:List Value->Value
 |[v]=>v|vs=>.tuple vs.toArray
theorem hgr {fn:Func} {tmps:Array Value} {w:World} {vs:List Value} (h:(fn.results.toList.mapM (JZ tmps)).run P w=.ok vs w):(results fn tmps).run P w=.ok (uh vs) w:=by
 have e0:results fn tmps=(do let vs ← fn.results.mapM (JZ tmps);pure (if h:vs.size=1 then vs[0] else .tuple vs)):=by unfold results;congr 2
 have N:(fn.results.mapM (JZ tmps)).run P w=.ok vs.toArray w:=by rw[Array.mapM_eq_mapM_toList];show(do pure (← fn.results.toList.mapM (JZ tmps)).toArray:Sem (Array Value)).run P w=_;rw[ae h];rfl
 rw[e0,ae N]
 match vs with
 |[]=>rfl|[v]=>rfl|v::u::l=>simp[uh]
def mi (P : Program) (BN : List TypeId) (D7 : List jc) : Prop := ∀ it ∈ D7, ∃ fn, P.funcs[it.f]? = some fn /\ (fn.name == "runtime.NumGoroutine") = false /\ rT P BN fn = some (it.ntmps, it.body)
theorem pJ:∀ {D7:List jc} {f:FuncId} {it:jc},Dw D7 f=some it->it∈D7/\it.f=f
 |[],_,_,h=>by cases h
 |x::l,f,it,h=>by
   simp[Dw]at h;split at h
   ·rename_i e;cases h;exact⟨Hw,e.symm⟩
   ·exact⟨HA _ (pJ h).1,(pJ h).2⟩
theorem hm0 {m:aH}:∀ (ps:List Nat) (sl xs:List af) (us:Array Value) (vs:List Value),aB m sl us.toList->aB m xs vs->xs.length=ps.length ->
 aB m (l9 sl ps xs) ((ps.zip vs).foldl (λt (p,v)=>t.setIfInBounds p v) us).toList
 |[],sl,xs,us,vs,h,_,_=>by cases xs<;>simpa[l9] using h
 |p::ps,sl,[],us,vs,_,_,hl=>by cases hl
 |p::ps,sl,x::xs,us,vs,h,hx,hl=>by simp[aB]at hx;obtain⟨u,us',rfl,M,N⟩:=hx;simp[l9,List.zip_cons_cons,List.foldl_cons];exact hm0 ps _ xs _ us' (by rw[Oj];exact kP p h M) N (by simpa using hl)
theorem SR.step {m m':aH} {sl sl':List af} {lh lh':List ar} {a a':Act} {w w':World} (h:SR B m sl lh a w) (hs:kd (B.at m lh w a.defers) m' sl' lh' a' w'):SR B m' sl' lh' a' w'/\KeepsOthers w w':=by
 let ⟨M,N⟩:=h.2.2.unbase hs.2.2
 exact⟨⟨hs.1,by rw[hs.2.1];exact pi N h.2.1,M⟩,N⟩
def wa (F:Fence) (w:World):Prop:=F.round=none∨∃l0 r0,F.round=some l0/\w.heap[l0]? = some (.loop r0)
theorem wa.keeps {F:Fence} {w w':World} (h:wa F w) (W:KeepsOthers w w'):wa F w' :=
 h.imp_right λ⟨l0,r0,M,N⟩=>⟨l0,r0,M,W.same _ _ N rfl⟩
theorem hnt {D7:List jc} (hS:∀ f,(QZ f).Ok P f) (hE:∀ t∈BN,dw P t) (hI:mi P BN D7):∀ (c:Code) (F:Fence) (n nb:Nat) (B:dB) (s:il) (sl:List af) (lh:List ar) (m:aH) (a:Act) (w:World) (Qe:Ex->List af->List ar->Prop),
 lk F->wa F w->dl P BN D7 c=some s->SR B m sl lh a w->cI B.w0 QZ nb s sl lh Qe->c.wpIn F n P (QC B nb lh m w Qe) a w:=by
 have hSS:∀f,(QZ f).Sound P f:=λf=>(hS f).sound;intro c;induction c with
 |skip=>intro F n nb B s sl lh m a w Qe hF hr hc hs U;cases hc;exact wpIn_skip ⟨.normal,sl,lh,m,rfl,hs,oH.refl _ _ _,.refl _,U⟩|label l=>intro F n nb B s sl lh m a w Qe hF hr hc hs U;cases hc;exact wpIn_label ⟨.normal,sl,lh,m,rfl,hs,oH.refl _ _ _,.refl _,U⟩
 |region id ops dr=>
   intro F n nb B s sl lh m a w Qe hF hr hc hs U;cases dr with
   |false=>simp only[dl,Fy]at hc;obtain⟨xs,TS,rfl⟩:=hc;refine wpIn_region ?_;have:=pA (n:=n) (ops:=ops) (B:=B.at m lh w a.defers) (Qe:=QC B nb lh m w Qe) hF hSS hE [] ops.toList xs 0 sl lh m a w (Qe .normal) av TS U ⟨hs.1,rfl,hs.2.2.rebase _⟩ (λsl' lh' m' a' w' M N h3=>⟨.normal,sl',lh',m',rfl,(hs.step M).1,N.toN nb,(hs.step M).2,h3⟩);rw[LK]at this;rwa [MZ,← Jo]
   |true=>
     simp only[dl]at hc;split at hc
     ·rename_i t ht;cases hc;exact hoc (B:=B.at m lh w a.defers) hF hS hE ht ⟨hs.1,rfl,hs.2.2.rebase _⟩ U (λsl' lh' m' a' w' M N h3=>⟨.normal,sl',lh',m',rfl,(hs.step M).1,N.toN nb,(hs.step M).2,h3⟩)
     ·split at hc
      ·rename_i t ht;cases hc;exact hop (B:=B.at m lh w a.defers) hF hS hE ht ⟨hs.1,rfl,hs.2.2.rebase _⟩ U (λsl' lh' m' a' w' M N h3=>⟨.normal,sl',lh',m',rfl,(hs.step M).1,N.toN nb,(hs.step M).2,h3⟩)
      simp only[Fy]at hc;obtain⟨ds,Wv,rfl⟩:=hc;exact hfo (B:=B.at m lh w a.defers) hF hS hE Wv ⟨hs.1,rfl,hs.2.2.rebase _⟩ U (λsl' lh' m' a' w' M N h3=>⟨.normal,sl',lh',m',rfl,(hs.step M).1,N.toN nb,(hs.step M).2,h3⟩)
 |seq x y ihx ihy=>
   intro F n nb B s sl lh m a w Qe hF hr hc hs U;simp only[dl]at hc;split at hc
   ·rename_i sx sy hx hy
    cases hc;refine wpIn_seq (wpIn_mono (ihx F n nb B sx sl lh m a w _ hF hr hx hs U) λe a' w' hq=>?_);obtain⟨ex,sl',lh',m',rfl,M,N,W,h3⟩:=hq;cases ex with
    |normal=>exact wpIn_mono (ihy F n nb B sy sl' lh' m' a' w' Qe hF (hr.keeps W) hy M h3) λe a'' w''=>QC.of N W λ_ _ _ h=>h
    |exit i=>exact⟨.exit i,sl',lh',m',rfl,M,N,W,h3⟩|ret=>exact⟨.ret,sl',lh',m',rfl,M,N,W,h3⟩
   ·cases hc
 |cond c x y ihx ihy=>
   intro F n nb B s sl lh m a w Qe hF hr hc hs U;simp only[dl]at hc;split at hc
   ·rename_i sx sy hx hy
    cases hc;simp only[cI]at U;have ha:=aW hs.1 c;split at U
    ·rename_i t ht;rw[ht]at ha;exact wpIn_cond_split (jx ha) (λe=>ihx F n nb B sx sl lh m a w Qe hF hr hx hs (U.1 e)) (λe=>ihy F n nb B sy sl lh m a w Qe hF hr hy hs (U.2 e))
    ·exact U.elim
   ·cases hc
 |block id x ih=>
   intro F n nb B s sl lh m a w Qe hF hr hc hs U;simp only[dl,Fy]at hc;obtain⟨sx,hx,rfl⟩:=hc;refine wpIn_block (wpIn_mono (ih F n nb B sx sl lh m a w _ hF hr hx hs U) λe a' w' hq=>?_);obtain⟨ex,sl',lh',m',rfl,M,N,W,h3⟩:=hq;cases ex with
   |normal=>exact⟨.normal,sl',lh',m',rfl,M,N,W,h3⟩
   |exit i=>
     simp only[S5,Exit.inBlock];simp only[xc]at h3;split at h3
     ·rename_i e;rw[E5 e];exact⟨.normal,sl',lh',m',rfl,M,N,W,h3⟩
     ·rename_i e;rw[DX e];exact⟨.exit i,sl',lh',m',rfl,M,N,W,h3⟩
   |ret=>exact⟨.ret,sl',lh',m',rfl,M,N,W,h3⟩
 |loop x ih=>
   intro F n nb B s sl lh m a w Qe hF hr hc hs U;simp only[dl,Fy]at hc;obtain⟨sx,hx,rfl⟩:=hc;simp only[cI]at U;obtain⟨ι,shs,shl,μ,i0,h0,no15⟩:=U;have sub:∀{m:aH} {sl TB:List af} {lh lh1:List ar} {a:Act} {w:World},Sub nb sl lh TB lh1->SR B m sl lh a w->∃m1,SR B m1 TB lh1 a w/\oH nb lh m lh1 m1:=λ{m sl TB lh lh1 a w} M N=>by obtain⟨m1,g1,g2⟩:=M.rel (B:={ B with ds:=a.defers }) (a:=a) (w:=w) (m:=m) ⟨N.1,rfl,N.2.2.withDs _⟩;exact⟨m1,⟨g1.1,N.2.1,g1.2.2.noDs⟩,g2⟩
   obtain⟨m1,UL,s7⟩:=sub h0 hs;refine hey (λk a w'=>∃i m',SR B m' (shs i) (shl i) a w'/\oH nb lh m (shl i) m'/\KeepsOthers w w'/\μ i=k) ⟨_,i0,m1,UL,s7,.refl _,rfl⟩ λk a w1 hI=>?_;obtain⟨i,m',hi,he,W,rfl⟩:=hI;refine wpIn_mono (ih F n nb B sx (shs i) (shl i) m' a w1 _ hF (hr.keeps W) hx hi (no15 i)) λe a' w' hq=>?_;obtain⟨ex,sl',lh',m2,rfl,M,N,UU,h3⟩:=hq;cases ex with
   |normal=>obtain⟨i',hsub,Qw⟩:=h3;obtain⟨m3,Xf,ip12⟩:=sub hsub M;exact⟨_,Qw,i',m3,Xf,(he.trans N).trans ip12,W.trans UU,rfl⟩
   |exit j=>exact⟨.exit j,sl',lh',m2,rfl,M,he.trans N,W.trans UU,h3⟩|ret=>exact⟨.ret,sl',lh',m2,rfl,M,he.trans N,W.trans UU,h3⟩
 |exit id=>intro F n nb B s sl lh m a w Qe hF hr hc hs U;cases hc;exact wpIn_exit ⟨.exit id,sl,lh,m,rfl,hs,oH.refl _ _ _,.refl _,U⟩|ret=>intro F n nb B s sl lh m a w Qe hF hr hc hs U;cases hc;exact wpIn_ret ⟨.ret,sl,lh,m,rfl,hs,oH.refl _ _ _,.refl _,U⟩
 |scope x ih=>intro F n nb B s sl lh m a w Qe hF hr hc hs U;simp only[dl,Fy]at hc;obtain⟨sx,hx,rfl⟩:=hc;exact hel (λl a w ⟨ex,_,_,_,h,_⟩=>by cases ex<;>cases h) (ih F n nb B sx sl lh m a w Qe hF hr hx hs U)
 |rangeFunc gop ps asg body iha ihb=>
   intro F n nb B s sl lh m a w Qe hF hr hc hs U;simp only[dl]at hc;split at hc
   ·rename_i yai yaj io12 io13
    ·cases hc
     simp only[cI]at U;have hg:=aW hs.1 gop;split at U
     ·rename_i f ys sT
      rw[sT]at hg;simp only[Dy,aB]at hg;obtain⟨us,lb,hg,Td,Ym⟩:=hg;obtain rfl:us=#[]:=by apply Array.toList_inj.1;simpa using Td
      split at U
      ·rename_i it hit
       obtain⟨hmem,rfl⟩:=pJ hit;obtain⟨fn,hf,Yf,YT⟩:=hI it hmem;unfold rT at YT;split at YT
       ·rename_i _ _ cb hbody hres
        simp only[Fy,Prod.mk.injEq]at YT;obtain⟨nzb15,np10,iza3,Wb⟩:=YT;subst Wb;refine wpIn_rangeFunc ?_;intro Wp hfn0
        let F0:Fence:={ F with round:=none }
        have hF0:lk F0:=⟨hF.fn,hF.depth,hF.alive⟩;obtain⟨l,mark,D0,rec,W1,hrec,henter,hL1,yaY,hH1,hlw,hmark⟩:∃ (l:Nat) (mark:List Deferred) (D0:Nat) (rec:LoopState->Option Code->Loop) (W1:World),rec=(λst pe=>{ state:=st,pending:=pe,fn:=Wp,tmps:=a.tmps,params:=ps,assign:=asg,body:=body,defers:=D0 })/\(Instr.enterLoop Wp a.tmps ps asg body F.round).run P w=.ok (l,mark) W1/\W1.heap[l]? = some (.loop (rec .ready none))/\KeepsOthers w W1/\bf B m lh W1/\w.heap.size<=l/\(∀ w'',KB l W1 w''->KeepsOthers w w''->ks B (mark++a.defers) w''):=by
         rcases hr with X8|⟨l0,r0,X8,uO⟩
         ·refine ⟨w.heap.size+1,[{ target:=.collected w.heap.size,args:=#[] }],w.heap.size,_,(w.alloc (.deferred (some []))).alloc (.loop { state:=.ready,pending:=none,fn:=Wp,tmps:=a.tmps,params:=ps,assign:=asg,body:=body,defers:=w.heap.size }),rfl,?_,?_,(KeepsOthers.alloc _ _).trans (KeepsOthers.alloc _ _),(hs.2.2.junk _).junk _,E,?_⟩
          ·rw[X8];exact run_enterLoop_outer _ _ _ _ _
          ·have:=World.alloc_heap_new (w.alloc (.deferred (some []))) (.loop { state:=.ready,pending:=none,fn:=Wp,tmps:=a.tmps,params:=ps,assign:=asg,body:=body,defers:=w.heap.size });rwa [World.size_alloc]at this
          ·intro w'' XX W;have hK1:=(KeepsOthers.alloc (w.alloc (.deferred (some []))) (.loop { state:=.ready,pending:=none,fn:=Wp,tmps:=a.tmps,params:=ps,assign:=asg,body:=body,defers:=w.heap.size })).same _ _ (World.alloc_heap_new w (.deferred (some []))) rfl;refine⟨_,rfl,XX.same _ _ E hK1 rfl,⟨hs.2.2.fsize,hs.2.2.size⟩,hs.2.1.old (λo ho=>?_),pi W hs.2.1⟩;have:=(Array.getElem?_eq_some_iff.1 ho).1;omega
         ·refine⟨w.heap.size,[],r0.defers,_,w.alloc (.loop { state:=.ready,pending:=none,fn:=Wp,tmps:=a.tmps,params:=ps,assign:=asg,body:=body,defers:=r0.defers }),rfl,?_,World.alloc_heap_new _ _,KeepsOthers.alloc _ _,hs.2.2.junk _,Em _,λw'' _ W=>pi W hs.2.1⟩;rw[X8];exact run_enterLoop_inner uO _ _ _ _ _
        have u3:B.w0.heap.size<=l:=HQ hs.2.2.size hlw;have hlef:B.wf.heap.size<=l:=HQ hs.2.2.fsize hlw
        refine ⟨l,mark,W1,{ target:=.fn (.func it.f) lb,args:=#[.func (.yield l) #[] #[]] },W1,it.f,
         #[.func (.yield l) #[] #[]]++lb,W1,henter,?_,λf' _=>hF.fn f',?_,(λe=>by rw[hF.depth]at e;cases e),?_⟩
        ·simp only[resolve,hg];simp[go_sem]
        ·simp only[invoke,callFunc];rw[ae (a:=P) (w':=W1) rfl,hf];simp only[Yf,hbody,Option.isNone_some,HH,Gq];rfl
        ·-- THE ITERATOR
         have hY:YS B F0 (n-1) P l rec W1 lh m (λxs lh K=>xs.length=ps.toList.length/\cI B.w0 QZ lh.length yai (l9 sl ps.toList xs) lh (vt (λsl lh'=>cI B.w0 QZ lh.length yaj sl lh' λx _ lh=>K x lh) λ_ _ _=>False)):=by
          intro m' lh' w' args vs K hh he uU XX RZ hy;obtain⟨hlen,hy⟩:=hy;refine⟨Wp,_,asg,body,by have:=run_yield (P:=P) (args:=vs.toArray) uU (by rw[hrec];have:=cU RZ;simp;simp at hlen;omega);rw[hrec]at this;exact this,?_⟩;refine roundIn_of_wpIn hfn0 ?_;have VD:SR B m' (l9 sl ps.toList args) lh' { tmps:=(ps.zip vs.toArray).foldl (λt (p,v)=>t.setIfInBounds p v) a.tmps,defers:=[] } w':=by refine⟨?_,trivial,hh⟩;have:=hm0 ps.toList sl args a.tmps vs (cW he.1 _ _ hs.1) RZ hlen;rw[← Array.foldl_toList,Array.toList_zip];simpa using this
          have hFr:lk (F0.inRound l):=⟨hF.fn,hF.depth,hF.alive⟩;refine wpIn_mono (iha (F0.inRound l) (n-1-1) lh'.length B yai _ lh' m' _ w' _ hFr (.inr ⟨l,_,rfl,uU⟩) io12 VD hy) λe a1 w1 hq=>?_;obtain⟨ex,TB,lh1,m1,rfl,M,N,Wa,h3⟩:=hq;cases ex with
          |normal=>
            have X7:w1.heap[l]? = some (.loop (rec .ready none)):=Wa.same _ _ uU rfl;refine⟨_,run_beginRound X7 (by rw[hrec]),?_⟩;have Vx:=M.2.2.putObj X7 rfl hlef u3 (.loop { rec .ready none with state:=.busy });have hkb1:=(XX.keeps Wa).put (.loop { rec .ready none with state:=.busy });have u5:ks B a1.defers (w1.putObj (l) (.loop { rec .ready none with state:=.busy })):=M.2.1.keeps λAT o hD=>(World.putObj_heap_other (λe=>by subst e;rw[X7]at hD;cases hD)).trans hD;have hlt1:l<w1.heap.size:=(Array.getElem?_eq_some_iff.1 X7).1;have hr2:(w1.putObj (l) (.loop { rec .ready none with state:=.busy })).heap[l]? = some (.loop { rec .ready none with state:=.busy }):=World.putObj_heap_same hlt1;refine wpIn_mono (ihb (F0.inRound l) (n-1-1) lh'.length B yaj TB lh1 m1 a1 _ _ hFr (.inr ⟨l,_,rfl,hr2⟩) io13 ⟨M.1,u5,Vx⟩ h3) λe a2 w2 hq=>?_;obtain⟨ex,TX,lh2,m2,rfl,k1,k2,UU,k3⟩:=hq;have uP:=UU.same _ _ hr2 rfl;have hend:∀jump:Option Code,(Instr.endRound (l) jump).run P w2=.ok (.bool jump.isNone) (w2.putObj (l) (.loop (rec (if jump.isNone then .ready else .done) jump))):=λjump=>by have:=run_endRound (P:=P) jump uP;rw[hrec]at this ⊢;exact this
            have hlt3:l<w2.heap.size:=(Array.getElem?_eq_some_iff.1 uP).1;have fin:∀ x,∃ x' m'' lh'',Ending.returned (.bool (Hp x).isNone)=.returned (.bool (Hp x').isNone)/\bf B m'' lh'' (w2.putObj (l) (.loop (rec (if(Hp x).isNone then .ready else .done) ((Hp x).map JR))))/\jB lh' m' lh'' m''/\IL (l) rec (Hp x') (w2.putObj (l) (.loop (rec (if(Hp x).isNone then .ready else .done) ((Hp x).map JR))))/\KB (l) W1 (w2.putObj (l) (.loop (rec (if(Hp x).isNone then .ready else .done) ((Hp x).map JR))))/\(K x lh2->K x' lh''):=λx=>
             ⟨x,m2,lh2,rfl,k1.2.2.putObj uP rfl hlef u3 _,EO hh (N.trans k2),World.putObj_heap_same hlt3,(hkb1.keeps UU).put _,id⟩
            cases ex with
            |normal=>obtain⟨x',m'',lh'',e1,e2,e3,e4,e5,e6⟩:=fin .normal;exact⟨_,_,hend none,x',m'',lh'',e1,e2,e3,e4,e5,e6 k3⟩|exit i=>obtain⟨x',m'',lh'',e1,e2,e3,e4,e5,e6⟩:=fin (.exit i);exact⟨_,_,hend (some (.exit i)),x',m'',lh'',e1,e2,e3,e4,e5,e6 k3⟩|ret=>obtain⟨x',m'',lh'',e1,e2,e3,e4,e5,e6⟩:=fin .ret;exact⟨_,_,hend (some .ret),x',m'',lh'',e1,e2,e3,e4,e5,e6 k3⟩
          |exit i=>exact h3.elim|ret=>exact h3.elim
         have si:IR B (l) rec W1 lh m m (kj (l)::ys++List.replicate (it.ntmps-(ys.length+1)) .any) lh none { tmps:=(#[Value.func (.yield (l)) #[] #[]]++lb)++Array.replicate (fn.ntmps-(#[Value.func (.yield (l)) #[] #[]]++lb).size) undef,defers:=[] } W1:=by
          refine⟨?_,rfl,hH1,jB.refl _ _,hL1,KB.refl _ _⟩;have hl:=cU Ym;simp only[MO,Array.toList_replicate,Array.size_append];refine ef ?_ ?_
          ·simp only[aB];exact⟨_,_,rfl,by simp only[kj,Dy],Ym⟩
          ·have e:fn.ntmps-(#[Value.func (.yield (l)) #[] #[]].size+lb.size)=it.ntmps-(ys.length+1):=by
            have:lb.size=ys.length:=by simpa using hl
            rw[iza3,this];simp;omega
           rw[e];exact gV _ _
         refine callsIn_of_wp (F:=F0) hf hbody (hF.fn _) (wpIn_mono (hp1 hF0 hS hE hY cb it.body _ lh m none _ W1 _ np10 si (U _)) λe a' w' hq=>?_) rfl;obtain⟨ex,sl',lh',m',g,rfl,hi,hq⟩:=hq;have hres':(results fn a'.tmps).run P w'=.ok (uh []) w':=by refine hgr ?_;rw[hres];rfl
         have Qw:l<w'.heap.size:=(Array.getElem?_eq_some_iff.1 hi.rc).1;have hfin:∀ x,Qe x sl lh'->∃ o,QC B nb lh m w Qe (S5 x) { a with defers:=mark++a.defers } (w'.putObj (l) o)/\o=.loop { rec (if g.isNone then .ready else .done) (g.map JR) with state:=.exhausted }:=λx hx=>by
          have W:KeepsOthers w (w'.putObj (l) (.loop { rec (if g.isNone then .ready else .done) (g.map JR) with state:=.exhausted })):=by have XX:=hi.kb.put (.loop { rec (if g.isNone then .ready else .done) (g.map JR) with state:=.exhausted });exact⟨HQ yaY.size XX.size,λk o W ho=>XX.same k o (λe=>by have:=(Array.getElem?_eq_some_iff.1 W).1;omega) (yaY.same k o W ho) ho⟩
          refine⟨_,⟨x,sl,lh',m',rfl,⟨cW hi.ext.1 _ _ hs.1,?_,hi.hh.putObj hi.rc rfl hlef u3 _⟩,hi.ext.toN nb,W,hx⟩,rfl⟩;exact hmark _ (hi.kb.put _) W
         have hendl:=run_endLoop (P:=P) hi.rc (by rw[hrec];cases g<;>simp);have main:akl Qe sl .normal sl' lh' g->rangePost F n P (l) (QC B nb lh m w Qe) { a with defers:=mark++a.defers } (.returned (uh [])) w':=λhq=>by
          refine⟨_,_,hendl,?_⟩;cases g with
          |none=>obtain⟨o,M,rfl⟩:=hfin .normal hq;rw[hrec]at M ⊢;exact M
          |some x=>
            obtain⟨o,M,rfl⟩:=hfin x hq;rw[hrec]at M ⊢;cases x with
            |normal=>exact wpIn_skip M|exit i=>exact wpIn_exit M|ret=>exact wpIn_ret M
         cases ex with
         |normal=>exact⟨hi.df,_,hres',main hq⟩|ret=>exact⟨hi.df,_,hres',main (by cases g<;>exact hq)⟩|exit i=>exact hq.elim
       ·cases YT
      ·exact U.elim
     ·exact U.elim
   ·cases hc
 |_=>intro F n nb B s sl lh m a w Qe hF hr hc;cases hc
end
end Go.Sx
namespace Go.Sx
inductive Cv where|tmp (t:Nat)|cell (t:Nat) (n:Option Nat)
structure aO where
 ntmps:Nat
 res:List Cv
 body:il
def nQ (P:Program):List ResultVar->Option (List Cv)
 |[]=>some []|.tmp t::l=>(nQ P l).map (.tmp t::·)
 |.cell a t::l=>match qF P t,nQ P l with|some n,some l=>some (.cell a n::l)|_,_=>none
def eN (P:Program) (BN:List TypeId) (D7:List jc) (fn:Func):Option aO :=
 match fn.body with
 |some c=>match dl P BN D7 c,nQ P fn.results.toList with|some s,some r=>some ⟨fn.ntmps,r,s⟩|_,_=>none
 |none=>none
def j8 (w0:World) (sl:List af) (lh:List ar):List Cv->(List af->Prop)->Prop
 |[],K=>K []|.tmp t::l,K=>j8 w0 sl lh l λvs=>K (sl.getD t .any::vs)
 |.cell t n::l,K=>match sl.getD t .any with
   |.ptr (some p)=>match n with
     |none=>∃v,ld w0 lh p=some v/\j8 w0 sl lh l λvs=>K (v::vs)
     |some n=>∃cs,lds w0 lh p n=some cs/\j8 w0 sl lh l λvs=>K (.agg cs::vs)
   |_=>False
def rI:List af->af
 |[v]=>v|vs=>.tup vs
def aqF (w0:World) (res:List Cv) (K:af->List ar->Prop):Ex->List af->List ar->Prop
 |.normal,sl,lh=>j8 w0 sl lh res λvs=>K (rI vs) lh
 |.ret,sl,lh=>j8 w0 sl lh res λvs=>K (rI vs) lh
 |.exit _,_,_=>False
def IH (w0:World) (QZ:FuncId->b6) (f:aO) (args:List af) (lh:List ar) (K:af->List ar->Prop):Prop :=
 cI w0 QZ lh.length f.body (args++List.replicate (f.ntmps-args.length) .any) lh (aqF w0 f.res K)
def NX (nb:Nat) (K:af->List ar->Prop) (r:af) (lh:List ar):Prop:=∃r1 lh1,Sub nb [r] lh [r1] lh1/\K r1 lh1
mutual
theorem aoH:∀ a:af,ren id a=a
 |.int ..=>by simp[ren]
 |.bool ..=>by simp[ren]
 |.str ..=>by simp[ren]
 |.ptr none=>by simp[ren]
 |.ptr (some (.g _))=>by simp[ren]
 |.ptr (some (.l k off))=>by simp[ren,id]
 |.slice none _ _=>by simp[ren]
 |.slice (some (.g _)) _ _=>by simp[ren]
 |.slice (some (.l k off)) _ _=>by simp[ren,id]
 |.fn f xs ys=>by simp only[ren];rw[r9 xs,r9 ys]
 |.agg cs=>by simp[ren];rw[r9 cs]
 |.tup cs=>by simp[ren];rw[r9 cs]
 |.raw _=>by simp[ren]
 |.any=>by simp[ren]
theorem r9:∀ l:List af,xL id l=l
 |[]=>by simp[xL]
 |a::l=>by simp only[xL];rw[aoH a,r9 l]
end
mutual
theorem DW {p At:Nat->Prop} (h:∀ k,p k->At k):∀ a:af,lO p a->lO At a
 |.int ..,_=>by simp[lO]
 |.bool ..,_=>by simp[lO]
 |.str ..,_=>by simp[lO]
 |.ptr none,_=>by simp[lO]
 |.ptr (some (.g _)),_=>by simp[lO]
 |.ptr (some (.l k off)),hp=>by simp[lO]at *;exact h k hp
 |.slice none _ _,_=>by simp[lO]
 |.slice (some (.g _)) _ _,_=>by simp[lO]
 |.slice (some (.l k off)) _ _,hp=>by simp[lO]at *;exact h k hp
 |.fn f xs ys,hp=>by simp[lO]at *;exact⟨kV h xs hp.1,kV h ys hp.2⟩
 |.agg cs,hp=>by simp[lO]at *;exact kV h cs hp
 |.tup cs,hp=>by simp[lO]at *;exact kV h cs hp
 |.raw _,_=>by simp[lO]
 |.any,_=>by simp[lO]
theorem kV {p At:Nat->Prop} (h:∀ k,p k->At k):∀ l:List af,kh p l->kh At l
 |[],_=>by simp[kh]
 |a::l,hp=>by simp[kh]at *;exact⟨DW h a hp.1,kV h l hp.2⟩
end
theorem tG {p:Nat->Prop}:∀ {l:List af},kh p l->mN p id l l
 |[],_=>by simp[mN]
 |a::l,h=>by simp[kh]at h;simp[mN];exact⟨.inr ⟨h.1,(aoH a).symm⟩,tG h.2⟩
mutual
theorem hol {m:aH} {p:Nat->Prop} (h:∀ k b,m k=some b->p k):∀ (a:af) (v:Value),Dy m a v->lO p a
 |.int ..,_,_=>by simp[lO]
 |.bool ..,_,_=>by simp[lO]
 |.str ..,_,_=>by simp[lO]
 |.ptr none,_,_=>by simp[lO]
 |.ptr (some (.g _)),_,_=>by simp[lO]
 |.ptr (some (.l k off)),_,U=>by simp[Dy,d6]at U;let ⟨_,_,b,hb,_⟩:=U;simp[lO];exact h k b hb
 |.slice none _ _,_,_=>by simp[lO]
 |.slice (some (.g _)) _ _,_,_=>by simp[lO]
 |.slice (some (.l k off)) _ _,_,U=>by simp[Dy,d6]at U;let ⟨_,_,b,hb,_⟩:=U;simp[lO];exact h k b hb
 |.fn _ xs ys,_,U=>by simp[Dy]at U;let ⟨us,vs,_,N,h3⟩:=U;simp[lO];exact⟨gK h xs _ N,gK h ys _ h3⟩
 |.agg cs,_,U=>by simp[Dy]at U;let ⟨vs,_,N⟩:=U;simp[lO];exact gK h cs _ N
 |.tup cs,_,U=>by simp[Dy]at U;let ⟨vs,_,N⟩:=U;simp[lO];exact gK h cs _ N
 |.raw _,_,_=>by simp[lO]
 |.any,_,_=>by simp[lO]
theorem gK {m:aH} {p:Nat->Prop} (h:∀ k b,m k=some b->p k):∀ (l:List af) (vs:List Value),aB m l vs->kh p l
 |[],_,_=>by simp[kh]
 |a::l,_,U=>by simp[aB]at U;let ⟨u,us,_,N,h3⟩:=U;simp[kh];exact⟨hol h a u N,gK h l us h3⟩
end
def WF (lh:List ar):Prop:=∀(k:Nat) (cs:List af) (ty:TypeId),lh[k]? = some (.cells cs ty)->kh (λj=>j<lh.length) cs
theorem bf.wf {B:dB} {m:aH} {lh:List ar} {w:World} (h:bf B m lh w):WF lh:=λk cs ty W=>by
 let ⟨b,vs,_,RZ,_⟩:=h.loc k cs ty W
 exact gK (λj b hb=>Classical.byContradiction λhn=>by rw[h.dom j E]at hb;cases hb) cs _ RZ
section
variable {P:Program} {QZ:FuncId->b6} {BN:List TypeId}
theorem mw {B:dB} {m:aH} {sl:List af} {lh:List ar} {a:Act} {w:World} (hs:SR B m sl lh a w):∀ (rs:List ResultVar) (xs:List Cv) (K:List af->Prop),nQ P rs=some xs->j8 B.w0 sl lh xs K ->
 ∃ys vs,aB m ys vs/\K ys/\(rs.mapM (JZ a.tmps)).run P w=.ok vs w
 |[],xs,K,hc,U=>by simp only[nQ,Et]at hc;subst hc;exact⟨[],[],by simp[aB],U,rfl⟩
 |.tmp t::rs,xs,K,hc,U=>by
   simp only[nQ,Fy]at hc;obtain⟨l,hl,rfl⟩:=hc;simp only[j8]at U
   let ⟨ys,vs,M,N,h3⟩:=mw hs rs l _ hl U
   refine⟨_,a.tmps.getD t undef::vs,?_,N,?_⟩
   ·simp only[aB];exact⟨_,_,rfl,by simpa using nZ hs.1 t undef,M⟩
   ·simp only[KG];rw[ae (a:=a.tmps.getD t undef) (w':=w) rfl,ae h3];rfl
 |.cell b t::rs,xs,K,hc,U=>by
   simp only[nQ]at hc;split at hc
   ·rename_i n l hn hl
    cases hc;simp only[j8]at U;have hb:Dy m (sl.getD b .any) (a.tmps.getD b undef):=by simpa using nZ hs.1 b undef
    split at U
    ·rename_i p hp
     rw[hp]at hb
     let ⟨At,hq,SX⟩:=jS hb
     let ⟨d,hd,VO⟩:=kX hn
     cases n with
     |none=>
       let ⟨x,hx,U⟩:=U
       obtain⟨ad,v,rfl,hcell,hr⟩:=CX hs.2.2 SX hx
       let ⟨ys,vs,M,N,h3⟩:=mw hs rs l _ hl U
       refine⟨_,v::vs,by simp only[aB];exact⟨_,_,rfl,hr,M⟩,N,?_⟩;rcases VO with ⟨_,k,W,_⟩|⟨h4,_⟩
       ·cases W
       ·simp only[KG];rw[ae (a:=v) (w':=w) (by simp only[JZ];rw[hq,ae (a:=ad) (w':=w) rfl];unfold loadVar;rw[ae (kU hd w),h4];exact xR hcell)];rw[ae h3];rfl
     |some n=>
       let ⟨x,hx,U⟩:=U
       obtain⟨ad,us,rfl,hrun,hr⟩:=tQ (P:=P) hs.2.2 SX hx
       let ⟨ys,vs,M,N,h3⟩:=mw hs rs l _ hl U
       refine⟨_,.agg us::vs,by simp only[aB];exact⟨_,_,rfl,by simp only[Dy];exact⟨_,rfl,hr⟩,M⟩,N,?_⟩;rcases VO with ⟨h4,k,W,h5⟩|⟨_,W⟩
       ·cases W;simp only[KG];rw[ae (a:=Value.agg us) (w':=w) (by simp only[JZ];rw[hq,ae (a:=ad) (w':=w) rfl];unfold loadVar;rw[ae (kU hd w),h4];simp only[H2];rw[ae (run_sizeOf h5 w),ae hrun];rfl)];rw[ae h3];rfl
       ·cases W
    ·exact U.elim
   ·cases hc
theorem Ae {B:dB} {w:World} {AT:Nat} {o:Obj}:∀ {ds:List Deferred},(∀ d'∈ds,d'.target≠.collected AT)->ks B ds w->ks B ds (w.putObj AT o)
 |[],_,_=>trivial|d::ds,hn,⟨D',M,N,h3,h4,h5⟩=>⟨D',M,(World.putObj_heap_other (λe=>by subst e;exact hn d Hw (by rw[M]))).trans N,h3,h4,Ae (λd' hd=>hn d' (HA _ hd)) h5⟩
theorem pX {D7 : List jc} {f : FuncId} {fn : Func} {sf : aO} {Sp : b6} (hS : ∀ g, (QZ g).Ok P g) (hE : ∀ t ∈ BN, dw P t) (hI : mi P BN D7) (hf : P.funcs[f]? = some fn) (hn : (fn.name == "runtime.NumGoroutine") = false) (hc : eN P BN D7 fn = some sf)
 (h:∀w0 args lh K,WF lh->kh (λj=>j<lh.length) args->Sp w0 args lh K->IH w0 QZ sf args lh (NX lh.length K)):Sp.Sound P f:=by
 intro B m lh w args vs K hrel hargs SY
 have U:=h B.w0 args lh K hrel.wf (gK (λj b hb=>Classical.byContradiction λhn=>by rw[hrel.dom j E]at hb;cases hb) args vs hargs) SY
 unfold eN at hc
 split at hc
 ·rename_i c hb
  split at hc
  ·rename_i s rs hs hr
   cases hc
   refine⟨⟨fn,hf,hn,by rw[hb];rfl⟩,?_⟩
   refine(callsIn_wide (n:=0)).1 (callsIn_of_wp_marks hf hb trivial (wpIn_mono (hnt hS hE hI c Fence.wide 0 lh.length B s _ lh m _ w _ hq' (.inl rfl) hs ?_ U) λe a w' hq=>?_))
   ·refine⟨?_,trivial,hrel⟩
    simp[MO,Array.toList_replicate,List.size_toArray]
    rw[cU hargs]
    exact ef (by simpa using hargs) (gV _ _)
   ·obtain ⟨x,sl,lh',m',rfl,M,N,_,h3⟩:=hq
    have key:j8 B.w0 sl lh' rs (λvs=>NX lh.length K (rI vs) lh')->∀ (ds:List Deferred) (w1:World),ks B ds w1->SR B m' sl lh' { a with defers:=[] } w1->LeavesInM Fence.wide 0 P fn a.tmps (λe w'=>∃ v r m' lh',e=.returned v/\Dy m' r v/\jB lh m lh' m'/\bf B m' lh' w'/\K r lh') ds .returning w1:=λU ds=>by
     induction ds with
     |nil=>
       intro w1 _ UL
       let ⟨ys,us,g1,g2,g3⟩:=mw UL fn.results.toList rs _ hr U
       let ⟨r1,lh1,hsub,hK⟩:=g2
       have hone:Dy m' (rI ys) (uh us):=by
        match ys,g1 with
        |[],g1=>simp[aB]at g1;subst g1;simp[rI,uh,Dy,aB]
        |[y],g1=>simp only[aB]at g1;obtain⟨u,us',rfl,g4,rfl⟩:=g1;exact g4
        |y::z::l,g1=>
          have g1':=g1
          simp[aB]at g1'
          obtain⟨u,us1,rfl,_,u2,us2,rfl,_⟩:=g1'
          simp only[rI,uh,Dy]
          exact⟨_,rfl,by simpa using g1⟩
       let ⟨m1,UM,s7⟩:=hsub.rel (B:={ B with ds:=[] }) (a:=⟨#[uh us],[]⟩) (m:=m') (w:=w1) ⟨by simp only[aB];exact⟨_,_,rfl,hone,rfl⟩,rfl,UL.2.2.withDs _⟩
       have X7:=UM.1
       simp only[aB]at X7
       let ⟨u,us',e,g5,_⟩:=X7
       simp at e
       exact⟨_,hgr g3,_,r1,m1,lh1,rfl,by rw[e.1];exact g5,EO hrel (N.trans s7),UM.2.2.noDs,hK⟩
     |cons d ds ih=>
       intro w1 hm UL
       obtain⟨AT,rfl,hD,hb,hd,Uq⟩:=hm
       refine⟨av,.inl ⟨AT,_,rfl,run_takeDeferred hD,ih _ ?_ ⟨UL.1,trivial,UL.2.2.putObj hD rfl hb.1 hb.2 _⟩⟩⟩
       refine Ae hd Uq
    cases x with
    |normal=>exact key h3 a.defers w' M.2.1 ⟨M.1,trivial,M.2.2⟩
    |exit i=>exact h3.elim
    |ret=>exact key h3 a.defers w' M.2.1 ⟨M.1,trivial,M.2.2⟩
  ·cases hc
 ·cases hc
end
end Go.Sx
namespace Go.Sx
def Nr:b6:=λ_ _ _ _=>False
section
variable {P:Program} {BN:List TypeId}
theorem b10 (f:FuncId):Nr.Ok P f:=⟨λ_ _ _ _ _ _ _ _ _ h=>h.elim,λ_ _ _ _ _ _ h=>h.elim,λ_ _ _ _ h=>h.elim⟩
end
theorem hvx {lh l:List ar} {K:af->List ar->Prop} {r:af} (h:lO (λk=>k<lh.length) r) (hc:WF lh) (hK:K r lh):NX lh.length K r (lh++l):=by
 refine⟨r,lh,.inr ⟨id,λ_ _=>rfl,Em _,λk W _=>(Fp W).symm,?_,λk cs ty W=>⟨cs,?_,?_⟩,λ_ _ _ _ h=>h⟩,hK⟩
 ·exact tG (by simp only[kh];exact⟨DW (λk W=>.inl W) r h,trivial⟩)
 ·rw[id,Fp (List.getElem?_eq_some_iff.1 W).1];exact W
 ·exact tG (kV (λk W=>.inl W) cs (hc k cs ty W))
end Go.Sx
namespace Go.Dx
open Go.Sx
inductive V where|int (k:IntKind) (n:Int)|bool (b:Bool)|kb (b:Bool)|str (s:ByteArray)|agg (cs:List V)|tup (vs:List V)|fn (f:FuncId) (xs ys:List V)|sl (n:Nat) (f:Nat->List V)|pd (cs:List V)|pl (k off:Nat)|pe (k i j:Nat)|ss (k off n c:Nat)|gs (k n:Nat)|ns|np|any|gd (b:Bool) (v:V)|yl (l:Nat)|go (k off n:Nat)|sq (n m:Nat) (f:Nat->List V)
inductive A7 where|cells (cs:List V) (ty:TypeId)|gl (esz n:Nat) (f:Nat->List V) (ty:TypeId)|dead|hid
abbrev bZ:=List (Nat×V)
abbrev bk:=Nat->List V
structure RD where
 ps:List Nat
 asg:il
 body:il
 e0:bZ
 l:Nat
inductive Al where|s (c:il)|i (c:jv) (rd:RD)
inductive BO (α:Type) where|ret (a:α)|br (b:Bool) (x y:BO α)|ob (b:Bool) (x:BO α)|obi (c d:Bool) (x:BO α)|obp (p:Prop) (x:BO α)|obq (a b:List V) (x:BO α)|fail (why:Nat)|loop (fr:Nat×Nat) (body:Al) (e:bZ) (h:List A7) (g:Option Ex) (k:Ex->bZ->List A7->Option Ex->BO α)|all (f:Nat->BO α)|und (x y:BO α)|asm (p:Prop) (x:BO α)
def kg:bZ->Nat->V
 |[],_=>.any|(d,v)::e,i=>cond (Nat.beq i d) v (kg e i)
def gY {α:Type}:List α->Nat->Option α
 |[],_=>none|a::_,0=>some a|_::l,i+1=>gY l i
def AF {α:Type}:List α->Nat->α->List α
 |[],_,_=>[]|_::l,0,b=>b::l|a::l,i+1,b=>a::AF l i b
def Hf {α:Type}:List α->α->List α
 |[],b=>[b]|a::l,b=>a::Hf l b
def yx {α:Type}:List α->List α->List α
 |[],b=>b|a::l,b=>a::yx l b
def b7 {α:Type}:List α->Nat
 |[]=>0|_::l=>b7 l+1
def sY {α:Type}:Nat->List α->Option (List α)
 |0,l=>some l|_+1,[]=>none|n+1,_::l=>sY n l
def yj {α:Type}:Nat->List α->Option (List α)
 |0,_=>some []|_+1,[]=>none
 |n+1,a::l=>match yj n l with|some r=>some (a::r)|none=>none
def FU {α:Type} (l:List α) (off n:Nat):Option (List α) :=
 match sY off l with
 |some r=>yj n r|none=>none
def rF {α:Type}:List α->Nat->List α->Option (List α)
 |cs,0,[]=>some cs|[],0,_::_=>none
 |_::cs,0,x::xs=>match rF cs 0 xs with|some r=>some (x::r)|none=>none
 |[],_+1,_=>none
 |c::cs,off+1,xs=>match rF cs off xs with|some r=>some (c::r)|none=>none
def HV:af->V
 |.int k n=>.int k n|.bool b=>.kb b|.str s=>.str s|.ptr none=>.np|.slice none 0 0=>.ns|.fn (.func f) [] []=>.fn f [] []|_=>.any
def dM (e:bZ):gq->V
 |.t i=>kg e i|.k a=>HV a
def V.one:V->Bool
 |.agg _|.tup _|.any|.gd ..|.yl _=>false|_=>true
def V.fc:V->Bool
 |.agg _|.tup _|.fn ..|.gd ..|.yl _=>false|_=>true
def V.cells:V->List V
 |.agg cs=>cs|v=>[v]
def V.flat:V->Bool
 |.agg cs=>cs.all V.one|v=>v.one
section
variable {α:Type}
def ju (ctx:Bool) (v:V) (K:V->BO α):BO α :=
 match v with
 |.gd b v=>.obi ctx b (K v)|v=>K v
def vF (ctx:Bool) (e:bZ):List gq->(List V->BO α)->BO α
 |[],K=>K []|x::xs,K=>ju ctx (dM e x) λv=>vF ctx e xs λvs=>K (v::vs)
def vC (ctx:Bool) (e:bZ):Option gq->(Option V->BO α)->BO α
 |none,K=>K none|some x,K=>ju ctx (dM e x) λv=>K (some v)
def yR (ctx:Bool) (p:Prop) [Decidable p] (x:BO α):BO α:=.obi ctx (decide p) x
def gz (pl:Option Nat) (h:List A7) (o:A7) (K:Nat->List A7->BO α):BO α :=
 match pl with
 |none=>K (b7 h) (Hf h o)
 |some p=>match gY h p with|some .dead=>K p (AF h p o)|_=>.fail 1
def ri (ctx:Bool) (e:bZ):List (Nat×Nat×gq)->List V->(List V->BO α)->BO α
 |[],z,K=>K z
 |(off,n,x)::ps,z,K=>ju ctx (dM e x) λv=>
   cond (v.flat&&Nat.beq (b7 v.cells) n) (match rF z off v.cells with|some z=>ri ctx e ps z K|none=>.fail 2) (.fail 3)
def Rq (ctx:Bool) (op:BinOp) (k:IntKind) (a b:Int) (K:V->BO α):BO α :=
 match op with
 |.add=>K (.int k (k.wrap (a+b)))|.sub=>K (.int k (k.wrap (a-b)))|.mul=>K (.int k (k.wrap (a*b)))|.quo=>yR ctx (b≠0) (K (.int k (k.wrap (a.tdiv b))))|.rem=>yR ctx (b≠0) (K (.int k (a.tmod b)))|.eql=>K (.bool (a==b))|.neq=>K (.bool (a !=b))|.lss=>K (.bool (decide (a<b)))|.leq=>K (.bool (decide (a<=b)))|.gtr=>K (.bool (decide (b<a)))|.geq=>K (.bool (decide (b<=a)))|.and=>K (.int k (bits .and k a b))|.or=>K (.int k (bits .or k a b))|.xor=>K (.int k (bits .xor k a b))|.shl=>yR ctx (0<=b) (K (.int k (k.wrap (a*2 ^ min b.toNat k.bits))))|.shr=>yR ctx (0<=b) (K (.int k (a.fdiv (2 ^ min b.toNat k.bits))))|_=>.fail 4
def C4 (ctx:Bool) (op:BinOp) (x y:V) (K:V->BO α):BO α :=
 match x,y with
 |.int k a,.int k' b=>match decEq k k' with|.isTrue _=>Rq ctx op k a b K|.isFalse _=>.fail 5
 |.str a,.str b=>match op with|.eql=>K (.bool (a.toList==b.toList))|.neq=>K (.bool !(a.toList==b.toList))|.add=>yR ctx (((a.size+b.size:Nat):Int)<=IntKind.i64.max) (K (.str (a++b)))|_=>.fail 6
 |_,_=>.fail 7
def oS:V->Option Bool
 |.bool b=>some b|.kb b=>some b|_=>none
mutual
def IB (c:Bool):V->V->Option V
 |.int k a,.int k' b=>match decEq k k' with|.isTrue _=>some (.int k (cond c a b))|.isFalse _=>none
 |.bool a,y=>match oS y with|some b=>some (.bool (cond c a b))|none=>none
 |.kb a,y=>match oS y with|some b=>some (.bool (cond c a b))|none=>none
 |.str a,.str b=>some (.str (cond c a b))
 |.agg xs,.agg ys=>match Kr c xs ys with|some zs=>some (.agg zs)|none=>none
 |_,_=>none
def Kr (c:Bool):List V->List V->Option (List V)
 |[],[]=>some []
 |x::xs,y::ys=>match IB c x y with
   |some z=>match Kr c xs ys with|some zs=>some (z::zs)|none=>none
   |none=>none
 |_,_=>none
end
def EZ:List V->List V->Option Bool
 |[],[]=>some true
 |.int k a::xs,.int k' b::ys=>match decEq k k' with
   |.isTrue _=>match EZ xs ys with|some r=>some (a==b&&r)|none=>none
   |.isFalse _=>none
 |_,_=>none
def KQ (isMax:Bool):V->List V->Option V
 |x,[]=>some x
 |.int k a,.int k' b::xs=>match decEq k k' with|.isTrue _=>KQ isMax (.int k (if isMax then max a b else min a b)) xs|.isFalse _=>none
 |_,_=>none
def nI (ctx:Bool) (x:Option V) (y d:Nat) (K:Nat->BO α):BO α :=
 match x with
 |none=>K d|some (.int _ i)=>yR ctx (0<=i/\i<=y) (K i.toNat)|_=>.fail 8
def VI (m l a b:Nat):Nat:=cond (Nat.beq m l) a b
def nM (esz:Nat) (l:List V):Bool:=Nat.beq (b7 l) esz&&l.all V.one
def fM:Nat->(Nat->Bool)->Bool
 |0,_=>true|n+1,p=>fM n p&&p n
def Fu (h:List A7) (esz:Nat):V->Option (Nat×(Nat->List V)×Bool)
 |.ns=>some (0,λ_=>[],true)|.sl n f=>some (n,f,fM n λi=>nM esz (f i))
 |.gs k n=>match gY h k with|some (.gl e n' f _)=>cond (Nat.beq e esz) (some (n,f,Nat.ble n n')) none|_=>none
 |.ss k off n _=>match gY h k with
   |some (.cells cs _)=>match FU cs off (n*esz) with
     |some ds=>cond (ds.all V.one) (match n with|1=>some (1,λ_=>ds,true)|n=>some (n,λi=>(ds.drop (i*esz)).take esz,true)) none
     |none=>none
   |_=>none
 |.go k off n=>match gY h k with|some (.gl e n' f _)=>cond (Nat.beq e esz) (some (n,λi=>f (off+i),Nat.ble (off+n) n')) none|_=>none
 |_=>none
def bH (n:Nat) (f g:bk) (i:Nat):List V:=cond (Nat.blt i n) (f i) (g (i-n))
abbrev CF (α:Type):=FuncId->List V->List A7->(V->List A7->BO α)->BO α
def O9 (pl:Option Nat) (h:List A7) (ty:TypeId) (esz bytes:Nat) (s x:V) (K:V->List A7->BO α):BO α :=
 match Fu h esz x with
 |none=>.fail 10
 |some (m,g,At)=>.ob At (match s with
   |.ns=>.ob (decide (m*bytes<=140737488355328)&&!Nat.beq bytes 0) (gz pl h (.gl esz m g ty) λp h=>K (.gs p m) h)
   |.gs k n=>match gY h k with
     | some (.gl e n' f ty')=>cond (Nat.beq e esz&&Nat.beq ty ty') (.ob (decide (n<=n'/\(n+m)*bytes<=140737488355328)&&!Nat.beq bytes 0)
        (gz pl (AF h k .hid) (.gl esz (n+m) (bH n f g) ty) λp h=>K (.gs p (n+m)) h)) (.fail 11)
     |_=>.fail 12
   |.ss k off n c=>match Fu h esz (.ss k off n c) with
     |some (_,f,_)=>match n,c with
       |0,0=>match gY h k with|some (.cells [] ty')=>cond (Nat.beq ty ty'&&Nat.beq off 0) (.ob (decide (m*bytes<=140737488355328)&&!Nat.beq bytes 0) (gz pl (AF h k .hid) (.gl esz m g ty) λp h=>K (.gs p m) h)) (.fail 15)|_=>.fail 16
       |_,_=>match x with|.go _ _ _=>.br (Nat.beq m 0) (.ob (Nat.ble n c) (K (.ss k off n c) h)) (.ob (decide (c<n+m/\(n+m)*bytes<=140737488355328)&&!Nat.beq bytes 0) (gz pl h (.gl esz (n+m) (bH n f g) ty) λp h=>K (.gs p (n+m)) h))|_=>.ob (decide (c<n+m/\(n+m)*bytes<=140737488355328)&&!Nat.beq bytes 0) (gz pl h (.gl esz (n+m) (bH n f g) ty) λp h=>K (.gs p (n+m)) h)
     |none=>.fail 13
   |_=>.fail 14)
def Le (h:List A7):V->Option V
 |.pl k off=>match gY h k with|some (.cells cs _)=>gY cs off|_=>none
 |.pe k i j=>match gY h k with|some (.gl _ _ f _)=>gY (f i) j|_=>none
 |.pd cs=>gY cs 0|_=>none
def U8 (h:List A7) (n:Nat):V->Option (List V)
 |.pl k off=>match gY h k with|some (.cells cs _)=>FU cs off n|_=>none
 |.pe k i j=>match gY h k with|some (.gl _ _ f _)=>FU (f i) j n|_=>none
 |.pd cs=>yj n cs|_=>none
def Ko (l:List V) (i:Nat):V:=match gY l i with|some v=>v|none=>.any
def XG (cs:List V) (j:Nat) (xs:List V):Nat->Nat->List V
 |_,0=>[]|t,m+1=>cond (Nat.ble j t&&Nat.blt t (j+b7 xs)) (Ko xs (t-j)) (Ko cs t)::XG cs j xs (t+1) m
def M8 (e:Nat) (cs:List V) (j:Nat) (xs:List V):Option (List V):=cond (Nat.ble (j+b7 xs) e) (some (XG cs j xs 0 e)) none
def VX (e:Nat) (f:bk) (i j:Nat) (xs:List V):Nat->List V:=λi'=>cond (Nat.beq i' i) (XG (f i) j xs 0 e) (f i')
def WV (h:List A7) (xs:List V):V->Option (List A7)
 |.pl k off=>match gY h k with
   |some (.cells cs ty)=>match rF cs off xs with|some cs=>some (AF h k (.cells cs ty))|none=>none
   |_=>none
 |.pe k i j=>match gY h k with|some (.gl e n f ty)=>cond (Nat.ble (j+b7 xs) e) (some (AF h k (.gl e n (VX e f i j xs) ty))) none|_=>none
 |_=>none
def yaK:Nat->List V
 |0=>[]|n+1=>.int .i64 0::yaK n
def Wj (ctx:Bool) (h:List A7) (v:V) (x:BO α):BO α :=
 match v with
 |.pe k i _=>match gY h k with|some (.gl _ n _ _)=>yR ctx (i<n) x|_=>.fail 17
 |_=>x
def Ct (cf:CF α) (ctx:Bool) (pl:Option Nat) (op:lN) (e:bZ) (h:List A7) (K:V->List A7->BO α):BO α :=
 match op with
 |.mov x=>ju ctx (dM e x) λv=>K v h
 |.pick c a b=>ju ctx (dM e c) λc=>match c with
   |.kb true=>ju ctx (dM e a) λv=>K v h
   |.kb false=>ju ctx (dM e b) λv=>K v h
   |.bool c=>ju (ctx&&c) (dM e a) λx=>ju (ctx&&!c) (dM e b) λy=>match IB c x y with
     |some v=>K v h
     |none=>.br c (K x h) (K y h)
   |.tup _=>.obi ctx false (K .any h)
   |_=>.fail 20
 |.new ty z=>gz pl h (.cells (z.map HV) ty) λp h=>K (.pl p 0) h
 |.box ty x=>ju ctx (dM e x) λv=>cond v.flat (gz pl h (.cells v.cells ty) λp h=>K (.pl p 0) h) (.fail 21)
 |.agg z ps=>ri ctx e ps (z.map HV) λcs=>K (.agg cs) h
 |.bsl ty n z ps=>ri ctx e ps (z.map HV) λcs=>gz pl h (.cells cs ty) λp h=>K (.ss p 0 n n) h
 |.ld a=>ju ctx (dM e a) λa=>Wj ctx h a (match Le h a with
   |some v=>K v h
   |none=>.fail 22)
 |.lds n a=>ju ctx (dM e a) λa=>Wj ctx h a (match U8 h n a with
   |some cs=>K (.agg cs) h
   |none=>.fail 23)
 |.st n a x=>ju ctx (dM e a) λa=>ju ctx (dM e x) λv=>Wj ctx h a (cond (v.flat&&Nat.beq (b7 v.cells) n) (match WV h v.cells a with
    |some h=>K (.tup []) h
    |none=>.fail 24) (.fail 25))
 |.nz x=>ju ctx (dM e x) λv=>match v with
   |.pl k o=>K (.pl k o) h
   |.pe k i j=>K (.pe k i j) h
   |.pd cs=>K (.pd cs) h
   |.fn f a b=>K (.fn f a b) h
   |_=>.fail 26
 |.bin op x y=>ju ctx (dM e x) λx=>ju ctx (dM e y) λy=>C4 ctx op x y λv=>K v h
 |.eqa neg n x y=>ju ctx (dM e x) λx=>ju ctx (dM e y) λy=>match x,y with
   |.agg xs,.agg ys=>match EZ xs ys with
     |some b=>cond (Nat.beq (b7 xs) n) (K (.bool (if neg then !b else b)) h) (.fail 27)
     |none=>.fail 28
   |_,_=>.fail 29
 |.eqb neg x y=>ju ctx (dM e x) λx=>ju ctx (dM e y) λy=>match oS x,oS y with
   |some a,some b=>K (.bool (if neg then !(a==b) else a==b)) h
   |_,_=>.fail 30
 |.un op x=>ju ctx (dM e x) λx=>match op,x with
   |.neg,.int k n=>K (.int k (k.wrap (0-n))) h
   |.not,.bool b=>K (.bool !b) h
   |.not,.kb b=>K (.kb !b) h
   |_,_=>.fail 31
 |.conv k x=>ju ctx (dM e x) λx=>match x with
   |.int _ n=>K (.int k (k.wrap n)) h
   |_=>.fail 32
 |.mkf f xs ys=>match f with
   |.func f=>vF ctx e xs λus=>vF ctx e ys λvs=>K (.fn f us vs) h
   |_=>.fail 33
 |.fa off x=>ju ctx (dM e x) λx=>match x with
   |.pl k o=>K (.pl k (o+off)) h
   |.pe k i j=>K (.pe k i (j+off)) h
   |.pd cs=>match sY off cs with
     |some cs=>K (.pd cs) h
     |none=>.fail 34
   |_=>.fail 35
 |.fld off n x=>ju ctx (dM e x) λx=>match x with
   |.agg cs=>match n with
     |some n=>match FU cs off n with
       |some ds=>K (.agg ds) h
       |none=>.fail 36
     |none=>match gY cs off with
       |some v=>K v h
       |none=>.fail 37
   |_=>.fail 38
 |.iaA n esz x ix=>ju ctx (dM e x) λx=>ju ctx (dM e ix) λix=>match x,ix with
   |.pl k o,.int _ i=>yR ctx (0<=i/\i<n) (K (.pl k (o+i.toNat*esz)) h)
   |.pe k j o,.int _ i=>yR ctx (0<=i/\i<n) (K (.pe k j (o+i.toNat*esz)) h)
   |.pd cs,.int _ i=>match sY (i.toNat*esz) cs with
     |some cs=>yR ctx (0<=i/\i<n) (K (.pd cs) h)
     |none=>.fail 39
   |_,_=>.fail 40
 |.iaS esz x ix=>ju ctx (dM e x) λx=>ju ctx (dM e ix) λix=>match x,ix with
   |.sl n f,.int _ i=>cond (Nat.beq (b7 (f i.toNat)) esz) (yR ctx (0<=i/\i<n) (K (.pd (f i.toNat)) h)) (.fail 41)
   |.ss k o n _,.int _ i=>yR ctx (0<=i/\i<n) (K (.pl k (o+i.toNat*esz)) h)
   |.gs k n,.int _ i=>match gY h k with
     |some (.gl e n' _ _)=>cond (Nat.beq e esz) (yR ctx (0<=i/\i<n/\n<=n') (K (.pe k i.toNat 0) h)) (.fail 42)
     |_=>.fail 43
   |.go k off n,.int _ i=>match gY h k with
     |some (.gl e n' _ _)=>cond (Nat.beq e esz) (yR ctx (0<=i/\i<n/\off+n<=n') (K (.pe k (off+i.toNat) 0) h)) (.fail 42)
     |_=>.fail 43
   |.ns,.int _ i=>yR ctx (0<=i/\i<(0:Int)) (K (.pd (yaK esz)) h)
   |_,_=>.fail 44
 |.ixA n esz sz x ix=>ju ctx (dM e x) λx=>ju ctx (dM e ix) λix=>match x,ix with
   |.agg cs,.int _ i=>match sz with
     |some sz=>match FU cs (i.toNat*esz) sz with
       |some ds=>yR ctx (0<=i/\i<n) (K (.agg ds) h)
       |none=>.fail 45
     |none=>match gY cs (i.toNat*esz) with
       |some v=>yR ctx (0<=i/\i<n) (K v h)
       |none=>.fail 46
   |_,_=>.fail 47
 |.ixS x ix=>ju ctx (dM e x) λx=>ju ctx (dM e ix) λix=>match x,ix with
   |.str s,.int _ i=>yR ctx (0<=i/\i<s.size) (K (.int .u8 ((s.data.toList.getD i.toNat 0).toNat:Int)) h)
   |_,_=>.fail 48
 |.len x=>ju ctx (dM e x) λx=>match x with
   |.sl n _=>.asm (ctx=true->n<=9223372036854775807) (K (.int .i64 n) h)
   |.ss _ _ n _=>K (.int .i64 n) h
   |.gs _ n=>K (.int .i64 n) h
   |.ns=>K (.int .i64 0) h
   |.go _ _ n=>K (.int .i64 n) h
   |_=>.fail 49
 |.lenT x=>ju ctx (dM e x) λx=>match x with
   |.str s=>K (.int .i64 s.size) h
   |_=>.fail 50
 |.lenA n=>K (.int .i64 n) h
 |.mm b x xs=>ju ctx (dM e x) λx=>vF ctx e xs λxs=>match KQ b x xs with
   |some v=>K v h
   |none=>.fail 51
 |.ext x i=>ju ctx (dM e x) λx=>match x with
   |.tup vs=>match gY vs i with
     |some v=>K v h
     |none=>.fail 52
   |_=>.fail 53
 |.slS esz x lo hi mx=>ju ctx (dM e x) λx=>vC ctx e lo λlo=>vC ctx e hi λhi=>vC ctx e mx λmx=>match x with
   |.sl n f=>match mx with
     |none=>cond (Nat.beq (b7 (f 0)) esz) (nI ctx hi n n λb=>nI ctx lo b 0 λa=>K (.sl (b-a) (λi=>f (a+i))) h) (.fail 19)
     |some _=>.fail 54
   |.gs k n=>match mx,lo with
     |none,none=>nI ctx hi n n λb=>K (.gs k b) h
     |none,some lo=>match gY h k with
       |some (.gl e _ _ _)=>cond (Nat.beq e esz) (nI ctx hi n n λb=>nI ctx (some lo) b 0 λa=>K (.go k a (b-a)) h) (.fail 104)
       |_=>.fail 105
     |_,_=>.fail 55
   |.ss k o n c=>nI ctx mx c c λm=>nI ctx hi m n λb=>nI ctx lo b 0 λa=>K (.ss k (VI m a o (o+a*esz)) (b-a) (m-a)) h
   |.ns=>match mx with
     |none=>nI ctx hi 0 0 λb=>nI ctx lo b 0 λ_=>K .ns h
     |some _=>.fail 56
   |_=>.fail 57
 |.slA n esz x lo hi mx=>ju ctx (dM e x) λx=>vC ctx e lo λlo=>vC ctx e hi λhi=>vC ctx e mx λmx=>match x with
   |.pl k o=>nI ctx mx n n λm=>nI ctx hi m n λb=>nI ctx lo b 0 λa=>K (.ss k (VI m a o (o+a*esz)) (b-a) (m-a)) h
   |_=>.fail 58
 |.slT x lo hi=>ju ctx (dM e x) λx=>vC ctx e lo λlo=>vC ctx e hi λhi=>match x with
   |.str s=>nI ctx hi s.size s.size λb=>nI ctx lo b 0 λa=>K (.str (s.extract a b)) h
   |_=>.fail 59
 |.app ty esz bytes z s x=>ju ctx (dM e s) λs=>ju ctx (dM e x) λx=>cond (Nat.beq (b7 z) esz) (O9 pl h ty esz bytes s x K) (.fail 18)
 |.mks ty n cs=>gz pl h (.cells (cs.map HV) ty) λp h=>K (.ss p 0 n n) h
 |.call f xs=>vF ctx e xs λvs=>cf f vs h K
 |.callv x xs=>ju ctx (dM e x) λx=>vF ctx e xs λvs=>match x with
   |.fn f a b=>cf f (yx (yx a vs) b) h K
   |_=>.fail 60
 |.isn neg x=>ju ctx (dM e x) λx=>match x with
   |.ns=>K (.kb (!neg)) h
   |.ss ..=>K (.kb neg) h
   |.sl n _=>.und (.asm (n=0) (K (.kb (!neg)) h)) (K (.kb neg) h)
   |.gs _ n=>.und (.asm (n=0) (K (.kb (!neg)) h)) (K (.kb neg) h)
   |_=>.fail 100
 |.clr esz z x=>ju ctx (dM e x) λx=>match x with
   |.go k off n=>match gY h k with
     |some (.gl e n' f ty)=>cond (Nat.beq e esz&&nM e (z.map HV)) (.ob (decide (0<n/\off+n<=n')) (K (.tup []) (AF h k (.gl e n' (λi=>cond (Nat.ble off i&&Nat.blt i (off+n)) (z.map HV) (f i)) ty)))) (.fail 101)
     |_=>.fail 102
   |_=>.fail 103
def mf:lN->Bool
 |.new ..|.box ..|.bsl ..|.st ..|.app ..|.mks ..|.call ..|.callv ..|.clr ..=>false|_=>true
def eE (e:bZ) (d:Option Nat) (v:V):bZ :=
 match d with
 |some d=>(d,v)::e|none=>e
def gB (b want:Bool):Bool:=match want with|true=>b|false=>!b
def hU (cf : CF α):List jq->bZ->List A7->(bZ->List A7->BO α)->BO α
 |[],e,h,K=>K e h
 |o::rest,e,h,K=>
   match o.guard with
   |none=>Ct cf true none o.op e h λv h=>hU cf rest (eE e o.dst v) h K
   |some (d,want)=>
     match kg e d with
     |.kb b=>match decEq b want with
       |.isTrue _=>Ct cf true none o.op e h λv h=>hU cf rest (eE e o.dst v) h K
       |.isFalse _=>hU cf rest (eE e o.dst (.tup [])) h K
     |.tup _=>hU cf rest (eE e o.dst (.tup [])) h K|.int ..=>hU cf rest (eE e o.dst (.tup [])) h K
     |.bool b=>match mf o.op with
       |true=>Ct cf (gB b want) none o.op e h λv _=>hU cf rest (eE e o.dst (.gd (gB b want) v)) h K
       | false=>.br (gB b want) (Ct cf true none o.op ((d,.kb want)::e) h λv h=>hU cf rest (eE ((d,.kb want)::e) o.dst v) h K)
          (hU cf rest (eE ((d,.kb (!want))::e) o.dst (.tup [])) h K)
     |.gd c v=>match oS v with
       |none=>match v with|.tup _=>hU cf rest (eE e o.dst (.tup [])) h K|_=>.fail 62
       |some b=>match mf o.op with
         |true=>Ct cf (c&&gB b want) none o.op e h λv _=>hU cf rest (eE e o.dst (.gd (c&&gB b want) v)) h K
         | false=>.br (c&&gB b want) (Ct cf true none o.op ((d,.kb want)::e) h λv h=>hU cf rest (eE ((d,.kb want)::e) o.dst v) h K)
            (hU cf rest (eE e o.dst (.tup [])) h K)
     |_=>.fail 61
end
def yz (k:Nat):List Nat->Bool
 |[]=>false|x::l=>cond (Nat.beq k x) true (yz k l)
def Gp:List Nat->List Nat->Bool
 |[],_=>true|k::l,R2=>yz k R2&&Gp l R2
def Lq:List Nat->List Nat->Bool
 |[],_=>true|k::l,R2=>!yz k R2&&Lq l R2
def ft (h:List A7) (k:Nat):Bool :=
 match gY h k with
 |some (.cells ..)=>true|some (.gl ..)=>true|_=>false
def kv (h:List A7):V->Option (List Nat)
 |.pl k _=>cond (ft h k) (some [k]) none|.pe k _ _=>cond (ft h k) (some [k]) none|.ss k _ _ _=>cond (ft h k) (some [k]) none|.gs k _=>cond (ft h k) (some [k]) none|.ns=>some []|_=>none
def HZ (h:List A7) (e:bZ) (H:Nat):DY->Option (List Nat)
 |.fresh r=>some [H+r]|.slot s=>kv h (kg e s)
 |.load s off=>match kg e s with
   |.pl k o=>match Le h (.pl k (o+off)) with|some v=>kv h v|none=>none
   |_=>none
def uv (h:List A7) (e:bZ) (H:Nat):List DY->Option (List Nat)
 |[]=>some []
 |x::l=>match HZ h e H x,uv h e H l with|some a,some b=>some (yx a b)|_,_=>none
def uE (h:List A7) (e:bZ) (H:Nat):List jn->Option (List (List Nat))
 |[]=>some []
 |d::l=>match uv h e H d.ws,uE h e H l with|some a,some b=>some (a::b)|_,_=>none
def dP (Ws:List (List Nat)) (i:Nat):List Nat:=match gY Ws i with|some l=>l|none=>[]
def oG (Ws:List (List Nat)):List Nat->List Nat
 |[]=>[]|u::un=>yx (dP Ws u) (oG Ws un)
def uG (Ws:List (List Nat)):List jn->Nat->Bool
 |[],_=>true|d::l,i=>Lq (dP Ws i) (oG Ws d.un)&&uG Ws l (i+1)
def ke (X:List Nat):List A7->Nat->List A7
 |[],_=>[]|o::h,k=>cond (yz k X) A7.hid o::ke X h (k+1)
def ko (X:List Nat) (h:List A7):List A7:=match X with|[]=>h|_=>ke X h 0
def mu (R2:List Nat) (l:List A7):List A7->Nat->List A7
 |[],_=>[]
 |o::h,k=>cond (yz k R2) (match gY l k with|some o'=>o'|none=>o) o::mu R2 l h (k+1)
def Gz (R2:List Nat) (h l:List A7):List A7:=mu R2 l h 0
def xB (Ws:List (List Nat)) (R6:List Nat):List jn->Nat->Nat->Bool
 |[],_,_=>true
 |d::l,i,j=>cond (Nat.blt i j) ((match d.rk with|none=>true|some _=>Lq (dP Ws i) R6||Gp (dP Ws i) R6)&&xB Ws R6 l (i+1) j) true
def zB (Ws:List (List Nat)) (all:List jn):List jn->Nat->Bool
 |[],_=>true|d::l,j=>(xB Ws (dP Ws j) all 0 j&&xB Ws (oG Ws d.un) all 0 j)&&zB Ws all l (j+1)
def undead:List A7->List A7
 |[]=>[]
 |o::h=>(match o with|.dead=>.hid|o=>o)::undead h
def deads:Nat->List A7
 |0=>[]|n+1=>.dead::deads n
def Lg (h:List A7) (e:bZ) (pl:Option Nat):lN->Option (List Nat)
 |.st _ a _=>kv h (dM e a)
 |.app _ _ _ _ s _=>match kv h (dM e s),pl with|some l,some p=>some (p::l)|_,_=>none
 |.new ..|.box ..|.bsl ..|.mks ..=>match pl with|some p=>some [p]|none=>none
 |.call ..|.callv ..=>some []|.clr ..=>none|_=>some []
def Mr (pl:Option Nat) (l:List Nat):List Nat:=match pl with|some p=>p::l|none=>l
section
variable {α:Type}
abbrev CP (α:Type):=Bool->FuncId->List V->List A7->(V->BO α)->BO α
def KJ (cp:CP α) (Ws:List (List Nat)) (H:Nat) (d:jn) (i:Nat) (e:bZ) (h:List A7) (K:V->List A7->BO α):BO α :=
 match mf d.o.op with
 |true=>Ct (λf vs h K=>cp false f vs h λv=>K v h) true none d.o.op e (ko (oG Ws d.un) h) λv _=>K v h
 |false=>match Lg (ko (oG Ws d.un) h) e (d.rk.map (H+·)) d.o.op with|none=>.fail 63|some l=>cond (Gp (Mr (d.rk.map (H+·)) l) (dP Ws i)) (Ct (λf vs h K=>cp false f vs h λv=>K v h) true (d.rk.map (H+·)) d.o.op e (ko (oG Ws d.un) h) λv l=>K v (Gz (dP Ws i) h l)) (.fail 64)
def HG (cp : CP α) (Ws:List (List Nat)) (H:Nat):List jn->Nat->bZ->List A7->(bZ->List A7->BO α)->BO α
 |[],_,e,h,K=>K e h
 |d::rest,i,e,h,K=>
   match d.o.guard with
   |none=>KJ cp Ws H d i e h λv h=>HG cp Ws H rest (i+1) (eE e d.o.dst v) h K
   |some (g,want)=>
     match kg e g with
     |.kb b=>match decEq b want with
       |.isTrue _=>KJ cp Ws H d i e h λv h=>HG cp Ws H rest (i+1) (eE e d.o.dst v) h K
       |.isFalse _=>HG cp Ws H rest (i+1) (eE e d.o.dst (.tup [])) h K
     |.tup _=>HG cp Ws H rest (i+1) (eE e d.o.dst (.tup [])) h K|.int ..=>HG cp Ws H rest (i+1) (eE e d.o.dst (.tup [])) h K
     |.bool b=>match mf d.o.op with
       |true=>Ct (λf vs h K=>cp false f vs h λv=>K v h) (gB b want) none d.o.op e (ko (oG Ws d.un) h) λv _=>HG cp Ws H rest (i+1) (eE e d.o.dst (.gd (gB b want) v)) h K
       | false=>.br (gB b want) (KJ cp Ws H d i ((g,.kb want)::e) h λv h=>HG cp Ws H rest (i+1) (eE ((g,.kb want)::e) d.o.dst v) h K)
          (HG cp Ws H rest (i+1) (eE ((g,.kb (!want))::e) d.o.dst (.tup [])) h K)
     |.gd c v=>match oS v with
       |none=>match v with|.tup _=>HG cp Ws H rest (i+1) (eE e d.o.dst (.tup [])) h K|_=>.fail 65
       |some b=>match mf d.o.op with
         |true=>Ct (λf vs h K=>cp false f vs h λv=>K v h) (c&&gB b want) none d.o.op e (ko (oG Ws d.un) h) λv _=>HG cp Ws H rest (i+1) (eE e d.o.dst (.gd (c&&gB b want) v)) h K
         | false=>.br (c&&gB b want) (KJ cp Ws H d i ((g,.kb want)::e) h λv h=>HG cp Ws H rest (i+1) (eE ((g,.kb want)::e) d.o.dst v) h K)
            (HG cp Ws H rest (i+1) (eE e d.o.dst (.tup [])) h K)
     |_=>.fail 66
def wS (cp:CP α) (ds:List jn) (e:bZ) (h:List A7) (K:bZ->List A7->BO α):BO α :=
 match uE (undead h) e (b7 h) ds with
 |none=>.fail 67|some Ws=>cond (uG Ws ds 0&&zB Ws ds ds 0) (HG cp Ws (b7 h) ds 0 e (yx (undead h) (deads (QB ds))) K) (.fail 68)
def Ml (ev:bZ->List A7->(Ex->bZ->List A7->BO α)->BO α):Nat->bZ->List A7->(Ex->bZ->List A7->BO α)->BO α
 |0,_,_,_=>.fail 90
 |n+1,e,h,K=>ev e h λx e h=>match x with|.normal=>Ml ev n e h K|.exit i=>K (.exit i) e h|.ret=>K .ret e h
def Xq (ev:bZ->List A7->Option Ex->(Ex->bZ->List A7->Option Ex->BO α)->BO α):Nat->bZ->List A7->Option Ex->(Ex->bZ->List A7->Option Ex->BO α)->BO α
 |0,_,_,_,_=>.fail 91
 |n+1,e,h,g,K=>ev e h g λx e h g=>match x with|.normal=>Xq ev n e h g K|.exit i=>K (.exit i) e h g|.ret=>K .ret e h g
def rf:bZ->List Nat->List V->bZ
 |e,p::ps,x::xs=>rf ((p,x)::e) ps xs|e,_,_=>e
abbrev YV (α:Type):=List V->List A7->(Ex->List A7->BO α)->BO α
def Lj (l:Nat) (R6:YV α) (t:Nat) (d:Option Nat) (xs:List gq) (e:bZ) (h:List A7) (g:Option Ex) (RJ:bZ->List A7->Option Ex->BO α):BO α:=ju true (kg e t) λv=>match g,v with
 |none,.yl l'=>.obq [.yl l'] [.yl l] (vF true e xs λvs=>R6 vs h λx h=>match x with|.normal=>RJ (eE e d (.kb true)) h none|.exit i=>RJ (eE e d (.kb false)) h (some (.exit i))|.ret=>RJ (eE e d (.kb false)) h (some .ret))
 |_,_=>.fail 92
def dG (cf:CF α) (l:Nat) (R6:YV α):List oF->bZ->List A7->Option Ex->(bZ->List A7->Option Ex->BO α)->BO α
 |[],e,h,g,K=>K e h g|.op o::rest,e,h,g,K=>hU cf [o] e h λe h=>dG cf l R6 rest e h g K
 |.yld t d xs::rest,e,h,g,K=>match g,kg e t with
   |none,.yl l'=>.obq [.yl l'] [.yl l] (vF true e xs λvs=>R6 vs h λx h=>match x with|.normal=>dG cf l R6 rest (eE e d (.kb true)) h none K|.exit i=>dG cf l R6 rest (eE e d (.kb false)) h (some (.exit i)) K|.ret=>dG cf l R6 rest (eE e d (.kb false)) h (some .ret) K)
   |_,_=>.fail 92
 |.yldG d want t dst xs::rest,e,h,g,K=>match kg e d with
   |.kb b=>match decEq b want with
     |.isTrue _=>Lj l R6 t dst xs e h g λe h g=>dG cf l R6 rest e h g K
     |.isFalse _=>dG cf l R6 rest (eE e dst (.tup [])) h g K
   |.tup _=>dG cf l R6 rest (eE e dst (.tup [])) h g K|.int ..=>dG cf l R6 rest (eE e dst (.tup [])) h g K|.bool b=>.br (gB b want) (Lj l R6 t dst xs ((d,.kb want)::e) h g λe h g=>dG cf l R6 rest e h g K) (dG cf l R6 rest (eE ((d,.kb (!want))::e) dst (.tup [])) h g K)
   |.gd c v=>match oS v with|none=>.fail 104|some b=>.br (c&&gB b want) (Lj l R6 t dst xs ((d,.kb want)::e) h g λe h g=>dG cf l R6 rest e h g K) (dG cf l R6 rest (eE e dst (.tup [])) h g K)
   |_=>.fail 105
abbrev l8:=Nat->Nat
def oa (cf:CF α) (cp:CP α) (un:l8) (fr:Nat×Nat) (rd:RD) (R6:YV α):Nat->jv->bZ->List A7->Option Ex->(Ex->bZ->List A7->Option Ex->BO α)->BO α
 |_,.skip,e,h,g,K=>K .normal e h g|_,.reg ops,e,h,g,K=>dG cf rd.l R6 ops e h g (K .normal)|_,.draw ds,e,h,g,K=>wS cp ds e h λe h=>K .normal e h g
 |_,.drawY ds xs,e,h,g,K=>wS cp ds e h λe h=>dG cf rd.l R6 xs e h g (K .normal)
 |bi,.seq a b,e,h,g,K=>oa cf cp un fr rd R6 bi a e h g λx e h g=>match x with|.normal=>oa cf cp un fr rd R6 bi b e h g K|.exit i=>K (.exit i) e h g|.ret=>K .ret e h g
 |bi,.cond c a b,e,h,g,K=>match dM e c with
   |.kb true=>oa cf cp un fr rd R6 bi a e h g K|.kb false=>oa cf cp un fr rd R6 bi b e h g K
   |.bool t=>match c with|.t s=>.br t (oa cf cp un fr rd R6 bi a ((s,.kb true)::e) h g K) (oa cf cp un fr rd R6 bi b ((s,.kb false)::e) h g K)|_=>.br t (oa cf cp un fr rd R6 bi a e h g K) (oa cf cp un fr rd R6 bi b e h g K)
   |_=>.fail 69
 |_,.block id b,e,h,g,K=>oa cf cp un fr rd R6 id b e h g λx e h g=>match x with|.exit i=>cond (Nat.beq i id) (K .normal e h g) (K (.exit i) e h g)|.normal=>K .normal e h g|.ret=>K .ret e h g
 |bi,.loop b,e,h,g,K=>match un bi with|0=>.loop fr (.i b rd) e h g K|n+1=>Xq (oa cf cp un fr rd R6 bi b) (n+1) e h g K
 |_,.exit id,e,h,g,K=>K (.exit id) e h g|_,.ret,e,h,g,K=>K .ret e h g|bi,.scope b,e,h,g,K=>oa cf cp un fr rd R6 bi b e h g K
def amz (K:Ex->bZ->List A7->BO α) (e:bZ):Ex->bZ->List A7->Option Ex->BO α
 |.exit _,_,_,_=>.fail 93|.normal,_,h,none=>K .normal e h|.normal,_,h,some x=>K x e h|.ret,_,h,none=>K .normal e h|.ret,_,h,some x=>K x e h
def Lr:List V->Nat->bZ
 |[],_=>[]|v::vs,i=>(i,v)::Lr vs (i+1)
def EP (cf:CF α):OT->bZ->List A7->(bZ->List A7->BO α)->BO α
 |.done,e,h,K=>K e h|.op o r,e,h,K=>hU cf [o] e h λe h=>EP cf r e h K
 |.alt a b,e,h,K=>.und (EP cf a e h K) (EP cf b e h K)
def uL (cf:CF α) (cp:CP α) (un:l8):Nat×Nat->Nat->il->bZ->List A7->(Ex->bZ->List A7->BO α)->BO α
 |_,_,.skip,e,h,K=>K .normal e h|_,_,.reg ops,e,h,K=>hU cf ops e h (K .normal)|_,_,.draw ds,e,h,K=>wS cp ds e h (K .normal)|_,_,.allo t,e,h,K=>EP cf t e h (K .normal)|_,_,.alloq t,e,h,K=>EP (λf vs h K=>cp true f vs h λv=>K v h) t e h (K .normal)
 |fr,bi,.seq a b,e,h,K=>uL cf cp un fr bi a e h λx e h=>match x with|.normal=>uL cf cp un fr bi b e h K|.exit i=>K (.exit i) e h|.ret=>K .ret e h
 |fr,bi,.cond c a b,e,h,K=>match dM e c with
   |.kb true=>uL cf cp un fr bi a e h K|.kb false=>uL cf cp un fr bi b e h K
   |.bool t=>match c with|.t s=>.br t (uL cf cp un fr bi a ((s,.kb true)::e) h K) (uL cf cp un fr bi b ((s,.kb false)::e) h K)|_=>.br t (uL cf cp un fr bi a e h K) (uL cf cp un fr bi b e h K)
   |_=>.fail 69
 |fr,_,.block id b,e,h,K=>uL cf cp un fr id b e h λx e h=>match x with|.exit i=>cond (Nat.beq i id) (K .normal e h) (K (.exit i) e h)|.normal=>K .normal e h|.ret=>K .ret e h
 |fr,bi,.loop b,e,h,K=>match un bi with
   |0=>.loop fr (.s b) e h none λx e h _=>K x e h
   |n+1=>Ml (uL cf cp un fr bi b) (n+1) e h K
 |_,_,.exit id,e,h,K=>K (.exit id) e h|_,_,.ret,e,h,K=>K .ret e h|fr,bi,.scope b,e,h,K=>uL cf cp un fr bi b e h K
 |fr,bi,.range g ps asg body D7,e,h,K=>match dM e g with
   |.fn f [] ys=>match Dw D7 f with
     |some it=>cond (Nat.ble (b7 ys+1) it.ntmps) (.all λl=>oa cf cp un (fr.1,b7 h) ⟨ps,asg,body,e,l⟩ (λvs h K=>cond (Nat.beq (b7 vs) (b7 ps)) (uL cf cp un (fr.1,b7 h) bi asg (rf e ps vs) h λx e1 M=>match x with
           |.normal=>uL cf cp un (fr.1,b7 h) bi body e1 M λx _ N=>K x N
           |_=>.fail 94) (.fail 95)) 0 it.body ((0,.yl l)::Lr ys 1) h none (amz K e)) (.fail 96)
     |none=>.fail 97
   |_=>.fail 98
def uK (e:bZ) (h:List A7):List Cv->(List V->BO α)->BO α
 |[],K=>K []|.tmp t::l,K=>ju true (kg e t) λv=>uK e h l λvs=>K (v::vs)
 |.cell t n::l,K=>match n with
   |none=>Wj true h (kg e t) (match Le h (kg e t) with
     |some v=>uK e h l λvs=>K (v::vs)
     |none=>.fail 70)
   |some n=>Wj true h (kg e t) (match U8 h n (kg e t) with
     |some cs=>uK e h l λvs=>K (.agg cs::vs)
     |none=>.fail 71)
def uh:List V->V
 |[v]=>v|vs=>.tup vs
def oE (cf:CF α) (cp:CP α) (un:l8) (lv:Nat) (sf:aO) (args:List V) (h:List A7) (K:V->List A7->BO α):BO α :=
 cond (Nat.ble (b7 args) sf.ntmps) (uL cf cp un (lv,b7 h) 0 sf.body (Lr args 0) h λx e h=>match x with|.exit _=>.fail 72|_=>uK e h sf.res λvs=>K (uh vs) (undead h)) (.fail 73)
def cq (cs:List V) (off e:Nat):Nat->List V:=λi=>(cs.drop (off+i*e)).take e
def Ib (v:V):V:=cond v.fc v .any
def mj (h:List A7):Nat->V->V
 |0,_=>.any
 |fu+1,v=>match v with
   |.int k n=>.int k n|.bool b=>.bool b|.kb b=>.bool b|.str s=>.str s|.sl n f=>.sl n f|.sq n m f=>.sq n m f|.pd cs=>.pd cs|.ns=>.sl 0 λ_=>[]
   |.agg cs=>.agg (cs.map (mj h fu))|.fn f xs ys=>.fn f (xs.map (mj h fu)) (ys.map (mj h fu))
   |.pl k off=>match gY h k with|some (.cells cs _)=>cond (Nat.ble off (b7 cs)) (.pd ((cs.drop off).map λv=>Ib (mj h fu v))) .any|_=>.any
   |.gs k n=>match gY h k with|some (.gl _ n' f _)=>cond (Nat.ble n n') (.sl n λi=>(f i).map λv=>Ib (mj h fu v)) .any|_=>.any
   |.ss k off n c=>match gY h k with
     | some (.cells cs _)=>cond (Nat.ble n 9223372036854775807&&(Nat.ble n c&&Nat.ble (off+n*((b7 cs-off) / c)) (b7 cs)))
        (.sq n c (cq (cs.map λv=>Ib (mj h fu v)) off ((b7 cs-off) / c))) .any
     |_=>.any
   |_=>.any
def Eb:V->V
 |.int k n=>.int k n|.bool b=>.bool b|.kb b=>.bool b|.str s=>.str s|.sl n f=>.sl n f|.pd cs=>.pd cs|_=>.any
def Ac (f:bk):Nat->List V:=λi=>(f i).map Eb
def H9 (h:List A7) (k n:Nat):V:=match gY h k with|some (.gl e _ f _)=>cond (Nat.beq e 6) (mj h 11 (.gs k n)) (.sl n (Ac f))|_=>.any
def Ih (h:List A7):V->V
 |.gs k n=>H9 h k n|v=>mj h 11 v
def td (h:List A7):V->V
 |.gs k n=>H9 h k n|.agg cs=>.agg (cs.map (Ih h))|v=>mj h 12 v
def IE (h:List A7) (k n:Nat):List (Nat×Nat):=match gY h k with|some (.gl _ n' _ _)=>[(n,n')]|_=>[]
def aaq (h:List A7):V->List (Nat×Nat)
 |.gs k n=>IE h k n|_=>[]
def FX (h:List A7):List V->List (Nat×Nat)
 |[]=>[]|v::vs=>yx (aaq h v) (FX h vs)
def aco (h:List A7):V->List (Nat×Nat)
 |.gs k n=>IE h k n|.agg cs=>FX h cs|_=>[]
def re (h:List A7):List V->List (Nat×Nat)
 |[]=>[]|v::vs=>yx (aco h v) (re h vs)
def JX:List (Nat×Nat)->BO α->BO α
 |[],x=>x|p::l,x=>.ob (Nat.ble p.1 p.2) (JX l x)
end
end Go.Dx
namespace Go.Sx
inductive AT where|v (a:af)|ag (ds:List AT)|sl (esz:Nat) (els:List (List AT))|pt (ds:List AT)|fn (f:FuncId) (xs ys:List AT)
def bO:af->Bool
 |.int ..|.bool ..|.str ..=>true|_=>false
def AT.isC:AT->Bool
 |.v _|.sl ..|.pt _=>true|_=>false
def Zo (lh:List ar):Option jp->Prop
 |some (.l k _)=>isCells lh[k]? = true|_=>True
section
variable (w0:World) (lh:List ar)
mutual
def rd:AT->af->Prop
 |.v b,a=>bO b=true/\a=b|.ag ds,a=>∃cs,a=.agg cs/\Mw ds cs|.sl esz els,a=>∃p c,a=.slice p els.length c/\els.length<=9223372036854775807/\Zo lh p/\Kt els esz p 0|.pt ds,a=>∃p cs,a=.ptr (some p)/\lds w0 lh p ds.length=some cs/\Mw ds cs|.fn f xs ys,a=>∃us vs,a=.fn (.func f) us vs/\PN xs us/\PN ys vs
def PN:List AT->List af->Prop
 |[],cs=>cs=[]|d::ds,cs=>∃x xs,cs=x::xs/\rd d x/\PN ds xs
def Mw:List AT->List af->Prop
 |[],cs=>cs=[]|d::ds,cs=>∃x xs,cs=x::xs/\d.isC=true/\rd d x/\Mw ds xs
def Kt:List (List AT)->Nat->Option jp->Nat->Prop
 |[],_,_,_=>True|e::es,esz,p,i=>(∃At cs,p=some At/\lds w0 lh (At.add (i*esz)) esz=some cs/\Mw e cs)/\Kt es esz p (i+1)
end
end
def plain:af->Bool
 |.agg cs=>cs.all bO
 |.tup cs=>cs.all λ|.agg ds=>ds.all bO|a=>bO a
 |a=>bO a
theorem qR {m m':aH} {a:af} {v:Value} (hs:bO a=true) (h:Dy m a v):Dy m' a v:=by cases a<;>simp[bO]at hs<;>first|(simp[Dy]at h ⊢;exact h)|cases hs
theorem kc {m m':aH}:∀ {az:List af} {vs:List Value},az.all bO=true->aB m az vs->aB m' az vs
 |[],_,_,h=>by simp[aB]at h ⊢;exact h
 |a::az,_,hs,h=>by simp only[Gw,Eg]at hs;simp only[aB]at h ⊢;obtain⟨u,us,rfl,M,N⟩:=h;exact⟨u,us,rfl,qR hs.1 M,kc hs.2 N⟩
theorem hoi {m m':aH} {a:af} {v:Value} (hs:(match a with|.agg ds=>ds.all bO|a=>bO a)=true) (h:Dy m a v):Dy m' a v:=by
 cases a with
 |agg cs=>simp[Dy]at h ⊢;obtain⟨vs,rfl,h⟩:=h;exact⟨vs,rfl,kc hs h⟩|_=>exact qR hs h
theorem hji {m m':aH}:∀ {az:List af} {vs:List Value},(az.all λ|.agg ds=>ds.all bO|a=>bO a)=true->aB m az vs->aB m' az vs
 |[],_,_,h=>by simp[aB]at h ⊢;exact h
 |a::az,_,hs,h=>by simp only[Gw,Eg]at hs;simp only[aB]at h ⊢;obtain⟨u,us,rfl,M,N⟩:=h;exact⟨u,us,rfl,hoi hs.1 M,hji hs.2 N⟩
theorem hpq {m m':aH} {a:af} {v:Value} (hs:plain a=true) (h:Dy m a v):Dy m' a v:=by
 cases a with
 |agg cs=>simp[Dy]at h ⊢;obtain⟨vs,rfl,h⟩:=h;exact⟨vs,rfl,kc hs h⟩|tup cs=>simp[Dy]at h ⊢;obtain⟨vs,rfl,h⟩:=h;exact⟨vs,rfl,hji hs h⟩|_=>exact qR hs h
theorem ue {p:Nat->Prop} {a:af} (hs:bO a=true):lO p a:=by cases a<;>first|(simp only[lO];done)|(simp only[bO]at hs;cases hs)
theorem qP {p:Nat->Prop}:∀ {az:List af},az.all bO=true->kh p az
 |[],_=>by simp[kh]
 |a::az,hs=>by simp only[Gw,Eg]at hs;simp only[kh];exact⟨ue hs.1,qP hs.2⟩
theorem hlb {p:Nat->Prop}:∀ {az:List af},(az.all λ|.agg ds=>ds.all bO|a=>bO a)=true->kh p az
 |[],_=>by simp[kh]
 |a::az,hs=>by
   simp only[Gw,Eg]at hs;simp only[kh];refine⟨?_,hlb hs.2⟩;cases a with
   |agg cs=>simp[lO];exact qP hs.1|_=>exact ue hs.1
theorem hzs {p:Nat->Prop} {a:af} (hs:plain a=true):lO p a:=by
 cases a with
 |agg cs=>simp[lO];exact qP hs|tup cs=>simp[lO];exact hlb hs|_=>exact ue hs
section
variable {B:dB} {m:aH} {lh:List ar} {w:World}
theorem kO {w:World} {a:Addr}:∀ (vs:List Value) (i:Nat),(∀ j v,vs[j]? = some v->w.cell? (a.add (i+j))=some v)->gT w a i vs.length=some (vs.map bS)
 |[],i,_=>rfl
 |v::vs,i,h=>by have h0:=h 0 v rfl;simp[I6]at h0;have ih:=kO vs (i+1) (λj u hu=>by have:=h (j+1) u (by simpa using hu);rw[← this];congr 2;omega);simp[HC,gT,h0,ih,GZ]
theorem yK (h:bf B m lh w) {p:jp} {At:Option Addr} (hq:d6 m (some p) At) {n:Nat} {xs:List af} (hx:lds B.w0 lh p n=some xs) :
 ∃a us,At=some a/\lds w [] (.g a) n=some (us.map bS)/\aB m xs us:=by
 cases p with
 |l k off=>
   simp[lds]at hx;split at hx
   ·rename_i cs ty W
    split at hx
    ·rename_i Rb
     cases hx;obtain⟨b,hb,rfl⟩:=hq
     let ⟨b',vs,RQ,RZ,hh,_⟩:=h.loc k cs ty W
     rw[hb]at RQ;cases RQ;have hl:=cU RZ;have hr:=fT n (gG off RZ);have hn:((vs.toList.drop off).take n).length=n:=by simp at hl ⊢;omega
     refine⟨_,(vs.toList.drop off).take n,rfl,?_,hr⟩;have:=kO (w:=w) (a:=⟨b,off,none⟩) ((vs.toList.drop off).take n) 0 (λj v U=>by
      rw[m6];rw[HW]at U;split at U
      ·rw[Hq]at U;simp[World.cell?,hh];simpa using U
      ·cases U)
     rw[hn]at this;exact this
    ·cases hx
   ·cases hx
 |g a=>simp[d6]at hq;subst hq;obtain⟨vs,rfl,N,h3⟩:=eW n 0 xs hx;refine⟨a,vs,rfl,?_,cw m vs⟩;have:=kO (w:=w) (a:=a) vs 0 (λj v U=>h.cell_g (h3 j v U));rw[N]at this;exact this
theorem bf.back (h:bf B m lh w) {m1:aH} {lh1:List ar} {w':World} (h':bf ⟨w,w,λ_=>False,[]⟩ m1 lh1 w'):bf B m lh w':=by
 have hold:∀b,b<w.heap.size->w'.heap[b]? = w.heap[b]? := λb hb=>h'.old b hb;have Rs:w.heap.size<=w'.heap.size:=h'.size;refine⟨h'.os.trans h.os,h'.tape.trans h.tape,h'.output.trans h.output,HQ h.size Rs,λb hb=>?_,HQ h.fsize Rs,λb hb ho=>?_,λk cs ty W=>?_,h.inj,h.dom,h.dead,λk b hb=>Ho (h.rng k b hb) Rs⟩
 ·rw[hold b (Ho hb h.size)];exact h.old b hb
 ·rw[hold b (Ho hb h.fsize)];exact h.kept b hb ho
 ·let ⟨b,vs,M,N,h3,h4⟩:=h.loc k cs ty W
  exact⟨b,vs,M,N,by rw[hold b (h.rng k b M)];exact h3,h4⟩
end
end Go.Sx
namespace Go.Dx
open Go.Sx
structure Nu where
 m:Nat->Option (Option (Nat×Nat×Nat))
 z:List ar
instance:CoeFun Nu λ_=>Nat->Option (Option (Nat×Nat×Nat)):=⟨Nu.m⟩
def wz (a b:List ar):Prop:=∀(k:Nat) (az:List af) (ty:TypeId),a[k]? = some (ar.cells az ty)->b[k]? = some (ar.cells az ty)
theorem mS (a:List ar):wz a a:=λ_ _ _ h=>h
theorem ahg (a:List ar):wz [] a:=λ_ _ _ h=>by simp at h
theorem pV {a b c:List ar} (h:wz a b) (k:wz b c):wz a c:=λi az ty hx=>k i az ty (h i az ty hx)
def Nu.nil:Nu:=⟨λ_=>none,[]⟩
def Nu.sub (ν ν':Nu):Prop:=(∀k x,ν k=some x->ν' k=some x)/\wz ν.z ν'.z
theorem Nu.nil_sub (ν:Nu):Nu.nil.sub ν:=⟨λ_ _ h=>by(cases h),ahg _⟩
theorem Nu.sub_refl (ν:Nu):ν.sub ν:=⟨λ_ _ h=>h,mS _⟩
theorem Nu.sub_trans {a b c:Nu} (h:a.sub b) (k:b.sub c):a.sub c:=⟨λi x hx=>k.1 i x (h.1 i x hx),pV h.2 k.2⟩
def Mp (lh:List ar):Option jp->Prop
 |some (.l k off)=>∃cs ty,lh[k]? = some (ar.cells cs ty)/\off<=cs.length|_=>True
mutual
def vr (w0:World) (lh:List ar) (ν:Nu):V->af->Prop
 |.int k n,a=>a=.int k n|.bool b,a=>a=.bool b|.kb b,a=>a=.bool b|.str s,a=>a=.str s|.agg cs,a=>∃az,a=.agg az/\bC w0 lh ν cs az|.tup cs,a=>∃az,a=.tup az/\bC w0 lh ν cs az|.fn f xs ys,a=>∃us vs,a=.fn (.func f) us vs/\bC w0 lh ν xs us/\bC w0 lh ν ys vs|.sl n f,a=>∃p c esz,a=.slice p n c/\n<=c/\n<=9223372036854775807/\Mp lh p/\∀i,i<n->∃At az,p=some At/\lds w0 lh (At.add (i*esz)) esz=some az/\bC w0 lh Nu.nil (f i) az/\(f i).all V.fc=true|.sq n m f,a=>∃p c esz,a=.slice p n c/\(n<=c/\n<=m)/\n<=9223372036854775807/\Mp lh p/\∀i,i<n->∃At az,p=some At/\lds w0 lh (At.add (i*esz)) esz=some az/\bC w0 lh Nu.nil (f i) az/\(f i).all V.fc=true|.pd cs,a=>∃p az,a=.ptr (some p)/\Zo lh (some p)/\lds w0 lh p cs.length=some az/\bC w0 lh Nu.nil cs az/\cs.all V.fc=true|.pl k off,a=>∃b c e,ν k=some (some (b,c,e))/\a=.ptr (some (.l b off))|.pe k i j,a=>∃b c e,ν k=some (some (b,c,e))/\a=.ptr (some (.l b (i*e+j)))|.ss k off n c,a=>∃b c' e,ν k=some (some (b,c',e))/\a=.slice (some (.l b off)) n c|.gs k n,a=>(ν k=some none/\n=0/\a=.slice none 0 0)∨∃b c e,ν k=some (some (b,c,e))/\a=.slice (some (.l b 0)) n c/\n<=c|.ns,a=>a=.slice none 0 0|.np,a=>a=.ptr none|.any,_=>True|.gd b v,a=>(b=true->vr w0 lh ν v a)/\(b=false->∃l,a=.tup l)|.yl l,a=>a=kj l|.go k off n,a=>(ν k=some none/\n=0/\off=0/\a=.slice none 0 0)∨∃b c e o,ν k=some (some (b,c,e))/\a=.slice (some (.l b o)) n (c-off)/\(off+n<=c/\o<=c*e)/\(0<n->o=off*e)
def bC (w0:World) (lh:List ar) (ν:Nu):List V->List af->Prop
 |[],az=>az=[]|v::vs,az=>∃x xs,az=x::xs/\vr w0 lh ν v x/\bC w0 lh ν vs xs
end
section lists
variable {α β:Type}
theorem bq:∀ (l:List α) (i:Nat),gY l i=l[i]?
 |[],_=>by simp[gY]
 |_::_,0=>by simp[gY]
 |_::l,i+1=>by simp[gY,bq l i]
theorem jd:∀ (l:List α) (i:Nat) (b:α),AF l i b=l.set i b
 |[],_,_=>rfl|_::_,0,_=>rfl|_::l,i+1,b=>by simp[AF,jd l i b]
theorem yw:∀ (l:List α) (b:α),Hf l b=l++[b]
 |[],_=>rfl|_::l,b=>by simp[Hf,yw l b]
theorem mt:∀ (l b:List α),yx l b=l++b
 |[],_=>rfl|_::l,b=>by simp[yx,mt l b]
theorem b5:∀ (l:List α),b7 l=l.length
 |[]=>rfl|_::l=>by simp[b7,b5 l]
theorem wX:∀ {n:Nat} {l r:List α},sY n l=some r->n<=l.length/\r=l.drop n
 |0,l,r,h=>by simp[sY]at h;simp[h]
 |n+1,[],r,h=>by simp[sY]at h
 |n+1,_::l,r,h=>by
   simp[sY]at h
   let ⟨M,N⟩:=wX h
   exact⟨by simp;exact M,by simpa using N⟩
theorem yr:∀ {n:Nat} {l r:List α},yj n l=some r->n<=l.length/\r=l.take n
 |0,l,r,h=>by simp[yj]at h;simp[h]
 |n+1,[],r,h=>by simp[yj]at h
 |n+1,a::l,r,h=>by
   simp[yj]at h;split at h
   ·rename_i r' hr
    cases h
    let ⟨M,N⟩:=yr hr
    exact⟨by simp;exact M,by simp[N]⟩
   ·cases h
theorem tk {l r:List α} {off n:Nat} (h:FU l off n=some r):off+n<=l.length/\r=(l.drop off).take n:=by
 unfold FU at h;split at h
 ·rename_i r' hr;obtain⟨M,rfl⟩:=wX hr;obtain⟨h3,rfl⟩:=yr h;simp at h3;exact⟨E,rfl⟩
 ·cases h
end lists
section
variable {w0:World} {lh:List ar} {ν ν':Nu}
mutual
theorem pB (hn:∀ k x,ν k=some x->ν' k=some x):∀ (v:V) (a:af),vr w0 lh ν v a->vr w0 lh ν' v a
 |.int ..,a,h=>by simp[vr]at h ⊢;exact h
 |.bool ..,a,h=>by simp[vr]at h ⊢;exact h
 |.kb ..,a,h=>by simp[vr]at h ⊢;exact h
 |.str ..,a,h=>by simp[vr]at h ⊢;exact h
 |.agg cs,a,h=>by simp[vr]at h ⊢;let ⟨az,M,N⟩:=h;exact⟨az,M,iM hn cs az N⟩
 |.tup cs,a,h=>by simp[vr]at h ⊢;let ⟨az,M,N⟩:=h;exact⟨az,M,iM hn cs az N⟩
 |.fn f xs ys,a,h=>by simp[vr]at h ⊢;let ⟨us,vs,M,N,h3⟩:=h;exact⟨us,vs,M,iM hn xs us N,iM hn ys vs h3⟩
 |.sl n f,a,h=>by
   simp[vr]at h ⊢
   let ⟨p,c,esz,M,N,h3,h4,h5⟩:=h
   exact⟨p,c,esz,M,N,h3,h4,λi hi=>let ⟨At,az,g1,g2,g3⟩:=h5 i hi;⟨At,az,g1,g2,g3⟩⟩
 |.sq n m f,a,h=>by
   simp[vr]at h ⊢
   let ⟨p,c,esz,M,N,h3,h4,h5⟩:=h
   exact⟨p,c,esz,M,N,h3,h4,λi hi=>let ⟨At,az,g1,g2,g3⟩:=h5 i hi;⟨At,az,g1,g2,g3⟩⟩
 |.pd cs,a,h=>by simp[vr]at h ⊢;let ⟨p,az,M,N,h3,h4⟩:=h;exact⟨p,az,M,N,h3,h4⟩
 |.pl k off,a,h=>by simp only[vr]at h ⊢;let ⟨b,c,e,M,N⟩:=h;exact⟨b,c,e,hn _ _ M,N⟩
 |.pe k i j,a,h=>by simp[vr]at h ⊢;let ⟨b,c,e,M,N⟩:=h;exact⟨b,c,e,hn _ _ M,N⟩
 |.ss k off n c,a,h=>by simp only[vr]at h ⊢;let ⟨b,c',e,M,N⟩:=h;exact⟨b,c',e,hn _ _ M,N⟩
 |.gs k n,a,h=>by
   simp only[vr]at h ⊢;rcases h with ⟨M,N⟩|⟨b,c,e,M,N⟩
   ·exact .inl ⟨hn _ _ M,N⟩
   ·exact .inr ⟨b,c,e,hn _ _ M,N⟩
 |.ns,a,h=>by simp[vr]at h ⊢;exact h
 |.np,a,h=>by simp[vr]at h ⊢;exact h
 |.any,a,h=>by simp[vr]
 |.gd b v,a,h=>by simp[vr]at h ⊢;exact⟨λe=>pB hn v a (h.1 e),h.2⟩
 |.yl l,a,h=>by simp[vr]at h ⊢;exact h
 |.go k off n,a,h=>by
   simp only[vr]at h ⊢;rcases h with ⟨M,N⟩|⟨b,c,e,o,M,N⟩
   ·exact .inl ⟨hn _ _ M,N⟩
   ·exact .inr ⟨b,c,e,o,hn _ _ M,N⟩
theorem iM (hn:∀ k x,ν k=some x->ν' k=some x):∀ (vs:List V) (az:List af),bC w0 lh ν vs az->bC w0 lh ν' vs az
 |[],az,h=>by simp[bC]at h ⊢;exact h
 |v::vs,az,h=>by simp[bC]at h ⊢;let ⟨x,xs,M,N,h3⟩:=h;exact⟨x,xs,M,pB hn v x N,iM hn vs xs h3⟩
end
theorem adq (hn:ν.sub ν') (v:V) (a:af) (h:vr w0 lh ν v a):vr w0 lh ν' v a:=pB hn.1 v a h
theorem lq (hn:ν.sub ν') (v:List V) (a:List af) (h:bC w0 lh ν v a):bC w0 lh ν' v a:=iM hn.1 v a h
theorem xX {lh lh':List ar} (hz:wz lh lh') {p:jp} {n:Nat} {az:List af} (h:lds w0 lh p n=some az):lds w0 lh' p n=some az:=by
 cases p with
 |g a=>exact h
 |l k off=>
   simp[lds]at h ⊢;cases W:lh[k]? with
   |none=>rw[W]at h;cases h
   |some o=>
     cases o with
     |dead=>rw[W]at h;cases h|hid=>rw[W]at h;cases h|cells cs ty=>rw[hz k cs ty W];rw[W]at h;exact h
theorem ahM {lh lh':List ar} (hz:wz lh lh') {p:Option jp} (h:Zo lh p):Zo lh' p:=by
 cases p with
 |none=>trivial
 |some p=>
   cases p with
   |g a=>trivial
   |l k off=>
     simp[Zo]at h ⊢;cases W:lh[k]? with
     |none=>rw[W]at h;cases h
     |some o=>
       cases o with
       |dead=>rw[W]at h;cases h|hid=>rw[W]at h;cases h|cells cs ty=>rw[hz k cs ty W];rfl
theorem aqS {lh lh':List ar} (hz:wz lh lh') {p:Option jp} (h:Mp lh p):Mp lh' p:=by
 cases p with
 |none=>trivial
 |some p=>
   cases p with
   |g a=>trivial|l k off=>let ⟨cs,ty,M,N⟩:=h;exact⟨cs,ty,hz k cs ty M,N⟩
theorem is6 {lh:List ar} {p:jp} {n:Nat} {az:List af} (h:lds w0 lh p n=some az):Zo lh (some p):=by
 cases p with
 |g a=>trivial
 |l k off=>
   simp[lds]at h;simp[Zo];cases W:lh[k]? with
   |none=>rw[W]at h;cases h
   |some o=>
     cases o with
     |dead=>rw[W]at h;cases h|hid=>rw[W]at h;cases h|cells cs ty=>rfl
mutual
theorem nh {lh lh':List ar} (hz:wz lh lh'):∀ {ν:Nu} (v:V) (a:af),vr w0 lh ν v a->vr w0 lh' ν v a
 |_,.int ..,a,h=>by simp[vr]at h ⊢;exact h
 |_,.bool ..,a,h=>by simp[vr]at h ⊢;exact h
 |_,.kb ..,a,h=>by simp[vr]at h ⊢;exact h
 |_,.str ..,a,h=>by simp[vr]at h ⊢;exact h
 |_,.agg cs,a,h=>by simp[vr]at h ⊢;let ⟨az,M,N⟩:=h;exact⟨az,M,lB hz cs az N⟩
 |_,.tup cs,a,h=>by simp[vr]at h ⊢;let ⟨az,M,N⟩:=h;exact⟨az,M,lB hz cs az N⟩
 |_,.fn f xs ys,a,h=>by simp[vr]at h ⊢;let ⟨us,vs,M,N,h3⟩:=h;exact⟨us,vs,M,lB hz xs us N,lB hz ys vs h3⟩
 |_,.sl n f,a,h=>by
   simp only[vr]at h ⊢
   let ⟨p,c,esz,M,N,h3,h4,h5⟩:=h
   exact⟨p,c,esz,M,N,h3,aqS hz h4,λi hi=>let ⟨At,az,g1,g2,g3,g4⟩:=h5 i hi;⟨At,az,g1,xX hz g2,lB hz (f i) az g3,g4⟩⟩
 |_,.sq n m f,a,h=>by
   simp only[vr]at h ⊢
   let ⟨p,c,esz,M,N,h3,h4,h5⟩:=h
   exact⟨p,c,esz,M,N,h3,aqS hz h4,λi hi=>let ⟨At,az,g1,g2,g3,g4⟩:=h5 i hi;⟨At,az,g1,xX hz g2,lB hz (f i) az g3,g4⟩⟩
 |_,.pd cs,a,h=>by simp only[vr]at h ⊢;let ⟨p,az,M,N,h3,h4,h5⟩:=h;exact⟨p,az,M,ahM hz N,xX hz h3,lB hz cs az h4,h5⟩
 |_,.pl k off,a,h=>by simp[vr]at h ⊢;exact h
 |_,.pe k i j,a,h=>by simp[vr]at h ⊢;exact h
 |_,.ss k off n c,a,h=>by simp[vr]at h ⊢;exact h
 |_,.gs k n,a,h=>by simp[vr]at h ⊢;exact h
 |_,.ns,a,h=>by simp[vr]at h ⊢;exact h
 |_,.np,a,h=>by simp[vr]at h ⊢;exact h
 |_,.any,a,h=>by simp[vr]
 |_,.gd b v,a,h=>by simp[vr]at h ⊢;exact⟨λe=>nh hz v a (h.1 e),h.2⟩
 |_,.yl l,a,h=>by simp[vr]at h ⊢;exact h
 |_,.go k off n,a,h=>by simp[vr]at h ⊢;exact h
theorem lB {lh lh':List ar} (hz:wz lh lh'):∀ {ν:Nu} (vs:List V) (az:List af),bC w0 lh ν vs az->bC w0 lh' ν vs az
 |_,[],az,h=>by simp[bC]at h ⊢;exact h
 |_,v::vs,az,h=>by simp[bC]at h ⊢;let ⟨x,xs,M,N,h3⟩:=h;exact⟨x,xs,M,nh hz v x N,lB hz vs xs h3⟩
end
theorem abi (hn:ν.sub ν') (v:V) (a:af) (h:vr w0 ν.z ν v a):vr w0 ν'.z ν' v a:=adq hn v a (nh hn.2 v a h)
theorem E3 (hn:ν.sub ν') (v:List V) (a:List af) (h:bC w0 ν.z ν v a):bC w0 ν'.z ν' v a:=lq hn v a (lB hn.2 v a h)
theorem bV:∀ {vs:List V} {az:List af},bC w0 lh ν vs az->az.length=vs.length
 |[],_,h=>by simp[bC]at h;subst h;rfl
 |_::_,_,h=>by simp[bC]at h;obtain⟨x,xs,rfl,_,h3⟩:=h;simp[bV h3]
theorem ou:∀ {vs:List V} {az:List af} {i:Nat} {v:V},bC w0 lh ν vs az->vs[i]? = some v->∃ a,az[i]? = some a/\vr w0 lh ν v a
 |[],_,_,_,_,h=>by simp at h
 |_::_,_,0,_,hr,h=>by simp[bC]at hr;obtain⟨x,xs,rfl,N,_⟩:=hr;simp at h;subst h;exact⟨x,rfl,N⟩
 |_::_,_,i+1,_,hr,h=>by
   simp[bC]at hr;obtain⟨x,xs,rfl,_,h3⟩:=hr;simp at h
   let ⟨a,h4,h5⟩:=ou h3 h
   exact⟨a,by simpa using h4,h5⟩
theorem gZ:∀ {vs:List V} {az:List af} (n:Nat),bC w0 lh ν vs az->bC w0 lh ν (vs.drop n) (az.drop n)
 |vs,az,0,h=>by simpa using h
 |[],az,n+1,h=>by simp[bC]at h;subst h;simp[bC]
 |_::_,az,n+1,h=>by simp[bC]at h;obtain⟨x,xs,rfl,_,h3⟩:=h;simpa using gZ n h3
theorem jh:∀ {vs:List V} {az:List af} (n:Nat),bC w0 lh ν vs az->bC w0 lh ν (vs.take n) (az.take n)
 |vs,az,0,h=>by simp[bC]
 |[],az,n+1,h=>by simp[bC]at h;subst h;simp[bC]
 |_::_,az,n+1,h=>by simp[bC]at h;obtain⟨x,xs,rfl,N,h3⟩:=h;simp only[List.take_succ_cons,bC];exact⟨_,_,rfl,N,jh n h3⟩
theorem lM:∀ {vs vs':List V} {az as':List af},bC w0 lh ν vs az->bC w0 lh ν vs' as'->bC w0 lh ν (vs++vs') (az++as')
 |[],_,_,_,h,h'=>by simp[bC]at h;subst h;simpa using h'
 |_::_,_,_,_,h,h'=>by simp[bC]at h;obtain⟨x,xs,rfl,N,h3⟩:=h;simp only[Jy,bC];exact⟨_,_,rfl,N,lM h3 h'⟩
theorem qk {α:Type}:∀ {cs:List α} {off:Nat} {xs r:List α},rF cs off xs=some r->off+xs.length<=cs.length/\r.length=cs.length
 |cs,0,[],r,h=>by simp[rF]at h;simp[h]
 |[],0,x::xs,r,h=>by simp[rF]at h
 |c::cs,0,x::xs,r,h=>by
   simp[rF]at h;split at h
   ·rename_i r' hr;cases h;have:=qk hr;simp at this ⊢;omega
   ·cases h
 |[],off+1,xs,r,h=>by simp[rF]at h
 |c::cs,off+1,xs,r,h=>by
   simp[rF]at h;split at h
   ·rename_i r' hr;cases h;have:=qk hr;simp at this ⊢;omega
   ·cases h
theorem AD (c:af):∀ (xs cs:List af) (off:Nat),wr (c::cs) (off+1) xs=c::wr cs off xs
 |[],_,_=>rfl|x::xs,cs,off=>by simp[wr,List.set_cons_succ];exact AD c xs _ _
theorem yn:∀ {cs:List V} {off:Nat} {xs:List V} {us:List af} {az:List af} {r:List V},bC w0 lh ν cs az->bC w0 lh ν xs us->rF cs off xs=some r->bC w0 lh ν r (wr az off us)
 |cs,0,[],us,az,r,h,hx,hw=>by simp[bC]at hx;subst hx;simp[rF]at hw;subst hw;exact h
 |[],0,x::xs,us,az,r,h,hx,hw=>by simp[rF]at hw
 |c::cs,0,x::xs,us,az,r,h,hx,hw=>by
   simp[bC]at hx h;obtain⟨u,us,rfl,M,N⟩:=hx;obtain⟨a,az,rfl,h3,h4⟩:=h;simp[rF]at hw;split at hw
   ·rename_i r' hr;cases hw;simp[wr,List.set_cons_zero];rw[AD];simp only[bC];exact⟨_,_,rfl,M,yn h4 N hr⟩
   ·cases hw
 |[],off+1,xs,us,az,r,h,hx,hw=>by simp[rF]at hw
 |c::cs,off+1,xs,us,az,r,h,hx,hw=>by
   simp[bC]at h;obtain⟨a,az,rfl,h3,h4⟩:=h;simp[rF]at hw;split at hw
   ·rename_i r' hr;cases hw;rw[AD];simp only[bC];exact⟨_,_,rfl,h3,yn h4 hx hr⟩
   ·cases hw
theorem asc (a:af):vr w0 lh ν (HV a) a:=by unfold HV;split<;>simp only[vr,bC];exact⟨_,_,rfl,rfl,rfl⟩
theorem qh:∀ l:List af,bC w0 lh ν (l.map HV) l
 |[]=>by simp[bC]
 |a::l=>by simp only[GZ,bC];exact⟨_,_,rfl,asc a,qh l⟩
theorem adR {v:V} {a:af} (h:vr w0 lh ν v a) (M:v.one=true):a.one=true:=by
 cases v<;>simp only[vr]at h
 case gs=>rcases h with ⟨_,_,h⟩|⟨_,_,_,_,h,_⟩<;>(subst h;rfl)
 case go=>rcases h with ⟨_,_,_,h⟩|⟨_,_,_,_,_,h,_⟩<;>(subst h;rfl)
 all_goals first
  |(simp[V.one]at M;done)|(subst h;rfl)|(obtain⟨_,_,rfl,_⟩:=h;rfl)|(obtain⟨_,_,_,rfl,_⟩:=h;rfl)|(obtain⟨_,_,_,_,rfl⟩:=h;rfl)
theorem kY:∀ {vs:List V} {az:List af},bC w0 lh ν vs az->vs.all V.one=true->az.all af.one=true
 |[],_,h,_=>by simp[bC]at h;subst h;rfl
 |_::_,_,h,M=>by simp[bC]at h;obtain⟨x,xs,rfl,N,h3⟩:=h;simp only[Gw,Eg]at M ⊢;exact⟨adR N M.1,kY h3 M.2⟩
theorem xy {v:V} {a:af} (h:vr w0 lh ν v a) (M:v.flat=true):a.flat=true/\bC w0 lh ν v.cells a.cells:=by
 by_cases U:∃cs,v=.agg cs
 ·obtain⟨cs,rfl⟩:=U;simp[vr]at h;obtain⟨az,rfl,N⟩:=h;exact⟨kY N M,N⟩
 ·have N:v.one=true:=by
   cases v<;>first|exact M|exact(U ⟨_,rfl⟩).elim
  have h3:=adR h N;have h4:v.cells=[v]:=by cases v<;>first|rfl|exact(U ⟨_,rfl⟩).elim
  have h5:a.cells=[a]/\a.flat=true:=by cases a<;>first|exact⟨rfl,h3⟩|(simp[af.one]at h3)
  refine⟨h5.2,?_⟩;rw[h4,h5.1];simp only[bC];exact⟨_,_,rfl,h,rfl⟩
structure gX (w0:World) (ν:Nu) (Qo:Nat) (e:bZ) (sl:List af):Prop where
 len:sl.length=Qo
 at':∀i,vr w0 ν.z ν (kg e i) (sl.getD i .any)
theorem gX.mono {Qo:Nat} {e:bZ} {sl:List af} (h:gX w0 ν Qo e sl) (hn:ν.sub ν'):gX w0 ν' Qo e sl:=⟨h.len,λi=>abi hn _ _ (h.at' i)⟩
theorem gX.arg {Qo:Nat} {e:bZ} {sl:List af} (h:gX w0 ν Qo e sl) (x:gq):vr w0 ν.z ν (dM e x) (arg sl x):=by
 cases x with
 |t i=>exact h.at' i|k a=>exact asc a
theorem mU (d:Nat) (v:V) (e:bZ) (i:Nat):kg ((d,v)::e) i=if i=d then v else kg e i:=by
 simp only[kg];by_cases h:i=d
 ·subst h;simp
 ·rw [DX h]
  have:Nat.beq i d=false:=by
   cases hb:Nat.beq i d with
   |false=>rfl|true=>exact(h (FF hb)).elim
  rw[this];rfl
theorem gX.set {Qo:Nat} {e:bZ} {sl:List af} (h:gX w0 ν Qo e sl) {d:Nat} (hd:d<Qo) {v:V} {a:af} (U:vr w0 ν.z ν v a):gX w0 ν Qo ((d,v)::e) (sl.set d a):=by
 refine⟨by simpa using h.len,λi=>?_⟩;rw[mU];by_cases hi:i=d
 ·subst hi;have:=h.len;rw[E5 rfl];simp[List.getD,show i<sl.length by omega];exact U
 ·rw[DX hi];simp[List.getD,G1];rw[DX (λe=>hi e.symm)];exact h.at' i
theorem gX.put {Qo:Nat} {e:bZ} {sl:List af} (h:gX w0 ν Qo e sl) (d:Option Nat) (hd:∀ i,d=some i->i<Qo) {v:V} {a:af} (U:vr w0 ν.z ν v a):gX w0 ν Qo (eE e d v) (fv sl d a):=by
 cases d with
 |none=>exact h|some d=>exact h.set (hd d rfl) U
theorem gX.know {Qo:Nat} {e:bZ} {sl:List af} (h:gX w0 ν Qo e sl) {d:Nat} {v:V} (U:vr w0 ν.z ν v (sl.getD d .any)):gX w0 ν Qo ((d,v)::e) sl:=by
 refine⟨h.len,λi=>?_⟩;rw[mU];split
 ·rename_i hi;subst hi;exact U
 ·exact h.at' i
theorem gX.args {Qo:Nat} {e:bZ} {sl:List af} (h:gX w0 ν Qo e sl):∀ xs:List gq,bC w0 ν.z ν (xs.map (dM e)) (xs.map (Sx.arg sl))
 |[]=>by simp[bC]
 |x::xs=>by simp only[GZ,bC];exact⟨_,_,rfl,h.arg x,h.args xs⟩
end
abbrev fK:=Nat×Nat->Al->bZ->List A7->Option Ex->(Ex->bZ->List A7->Option Ex->Prop)->Prop
def bR {α:Type} (LP:fK):BO α->(α->Prop)->Prop
 |.ret a,Qe=>Qe a|.br b x y,Qe=>(b=true->bR LP x Qe)/\(b=false->bR LP y Qe)|.ob b x,Qe=>b=true/\bR LP x Qe|.obi c d x,Qe=>(c=true->d=true)/\bR LP x Qe|.obp p x,Qe=>p/\bR LP x Qe|.obq a b x,Qe=>a=b/\bR LP x Qe|.fail _,_=>False|.loop fr body e h g k,Qe=>LP fr body e h g λex e h g=>bR LP (k ex e h g) Qe
 |.all f,Qe=>∀l,bR LP (f l) Qe|.und x y,Qe=>bR LP x Qe/\bR LP y Qe|.asm p x,Qe=>p->bR LP x Qe
def bj (h:List A7) (k:Nat):Prop:=ft h k=true
def E0 (w0:World) (ν:Nu) (nV nS:Nat) (lh:List ar) (k:Nat):A7->Prop
 |.cells cs ty=>∃b c e az,ν k=some (some (b,c,e))/\lh[b]? = some (.cells az ty)/\bC w0 ν.z ν cs az|.gl esz n f ty=>(ν k=some none/\n=0)∨∃b c az,ν k=some (some (b,c,esz))/\lh[b]? = some (.cells az ty)/\az.length=c*esz/\(n<=c/\n<=9223372036854775807)/\∀i,i<n->nM esz (f i)=true/\bC w0 ν.z ν (f i) ((az.drop (i*esz)).take esz)|.dead=>ν k=none/\nV<=k/\lh[nS+(k-nV)]? = some .dead|.hid=>True
structure HR (w0:World) (ν:Nu) (nV nS:Nat) (h:List A7) (lh:List ar):Prop where
 blk:∀k o,h[k]? = some o->E0 w0 ν nV nS lh k o
 inj:∀k k' x x',bj h k->bj h k'->ν k=some (some x)->ν k'=some (some x')->x.1=x'.1->k=k'
 dom:∀k,h.length<=k->ν k=none
 rng:∀k x,ν k=some (some x)->x.1<lh.length
 zl:wz ν.z lh
 zn:∀k x,bj h k->ν k=some (some x)->isCells ν.z[x.1]? = false
section
variable {w0:World} {ν ν':Nu} {nV nS:Nat} {h h':List A7} {lh lh':List ar} {α:Type} {LP:fK} {Qe:α->Prop}
theorem gD {k:Nat} (W:bj h k):(∃ cs ty,h[k]? = some (.cells cs ty))∨∃ e n f ty,h[k]? = some (.gl e n f ty):=by
 unfold bj ft at W;rw[bq]at W;split at W
 ·rename_i cs ty he;exact .inl ⟨cs,ty,he⟩
 ·rename_i e n f ty he;exact .inr ⟨e,n,f,ty,he⟩
 ·cases W
theorem eC {k:Nat} {cs:List V} {ty:TypeId} (W:h[k]? = some (.cells cs ty)):bj h k:=by unfold bj ft;rw[bq,W]
theorem iw {k e n:Nat} {f:bk} {ty:TypeId} (W:h[k]? = some (.gl e n f ty)):bj h k:=by unfold bj ft;rw[bq,W]
theorem dT {k:Nat} {o:A7} (hn:ν.sub ν') (hd:o ≠ .dead) (hl:∀ b az ty,lh[b]? = some (.cells az ty)->(∃ c e,ν k=some (some (b,c,e)))->lh'[b]? = some (.cells az ty)) (hb:E0 w0 ν nV nS lh k o):E0 w0 ν' nV nS lh' k o:=by
 cases o with
 |cells cs ty=>
   let ⟨b,c,e,az,M,N,h3⟩:=hb
   exact⟨b,c,e,az,hn.1 _ _ M,hl _ _ _ N ⟨c,e,M⟩,E3 hn _ _ h3⟩
 |gl esz n f ty=>
   rcases hb with ⟨M,N⟩|⟨b,c,az,M,N,h3,h4,h5⟩
   ·exact .inl ⟨hn.1 _ _ M,N⟩
   ·exact .inr ⟨b,c,az,hn.1 _ _ M,hl _ _ _ N ⟨c,esz,M⟩,h3,h4,λi hi=>⟨(h5 i hi).1,E3 hn _ _ (h5 i hi).2⟩⟩
 |dead=>exact(hd rfl).elim|hid=>trivial
def y5 (ν:Nu) (p:Nat) (x:Option (Nat×Nat×Nat)):Nu:=⟨λk=>if k=p then some x else ν k,ν.z⟩
theorem gA (ν:Nu) (p:Nat) (x:Option (Nat×Nat×Nat)) (k:Nat):y5 ν p x k=if k=p then some x else ν k:=rfl
theorem kN {p:Nat} {x:Option (Nat×Nat×Nat)} (hp:ν p=none):ν.sub (y5 ν p x):=⟨λk y W=>by
 rw[gA];have:k≠p:=λe=>by subst e;rw[hp]at W;cases W
 rw[DX this];exact W,mS _⟩
theorem gF (ν:Nu) (p:Nat) (x:Option (Nat×Nat×Nat)):y5 ν p x p=some x:=by rw[gA,E5 rfl]
theorem mV {o:Option ar} (h:isCells o=false) (az:List af) (ty:TypeId):o≠some (.cells az ty):=λe=>by subst e;cases h
theorem h3' {z lh:List ar} (h:wz z lh) {b:Nat} (hb:isCells lh[b]? = false):isCells z[b]? = false:=by
 cases hz:z[b]? with
 |none=>rfl
 |some o=>
   cases o with
   |dead=>rfl|hid=>rfl|cells az ty=>rw[h b az ty hz]at hb;cases hb
theorem HR.put (hh:HR w0 ν nV nS h lh) {p b c e:Nat} {o:A7} {az:List af} {ty:TypeId} (hp:ν p=none) (T8:p<h'.length)
 (ho:h'[p]? = some o) (hoth:∀k,k ≠ p->h'[k]? = h[k]?) (Yd:lh'[b]? = some (.cells az ty)) (dn:∀j,j ≠ b->lh'[j]? = lh[j]?) (hfree:isCells lh[b]? = false)
 (hlen:lh.length<=lh'.length) (hdead:∀k,h[k]? = some .dead->k≠p->nS+(k-nV)≠b) (Ye:o≠.dead)
 (rX:E0 w0 (y5 ν p (some (b,c,e))) nV nS lh' p o):HR w0 (y5 ν p (some (b,c,e))) nV nS h' lh'/\ν.sub (y5 ν p (some (b,c,e))):=by
 have hs:=kN (x:=some (b,c,e)) hp;have hlive:∀k,k≠p->bj h' k->bj h k:=λk W hl=>by unfold bj ft at *;rw[bq]at *;rw[hoth k W]at hl;exact hl
 have hcell:∀ k x,bj h k->ν k=some (some x)->x.1≠b:=λk x hl hx e=>by
  subst e;rcases gD hl with ⟨cs,t,W⟩|⟨_,_,_,_,W⟩
  ·let ⟨b',c',e',as',M,N,_⟩:=hh.blk k _ W
   rw[hx]at M;cases M;rw[N]at hfree;cases hfree
  ·rcases hh.blk k _ W with ⟨M,_⟩|⟨b',c',as',M,N,_⟩
   ·rw[hx]at M;cases M
   ·rw[hx]at M;cases M;rw[N]at hfree;cases hfree
 have eq:=h3' hh.zl hfree;refine⟨⟨λk o' W=>?_,λk k' x x' M N h3 h4 h5=>?_,λk W=>?_,λk x W=>?_,λj as' ty' hj=>?_,λk x W hx=>?_⟩,hs⟩
 ·by_cases e1:k=p
  ·subst e1;rw[ho]at W;cases W;exact rX
  ·rw [hoth k e1]at W
   by_cases hd:o'=.dead
   ·subst hd
    let ⟨g1,g2,g3⟩:=hh.blk k _ W
    exact⟨by rw[gA,DX e1];exact g1,g2,by rw[dn _ (hdead k W e1)];exact g3⟩
   ·refine dT hs hd (λb' as' ty' g1 _=>?_) (hh.blk k _ W);rw[dn b' (λe2=>by subst e2;rw[g1]at hfree;cases hfree)];exact g1
 ·rw [gA]at h3 h4
  by_cases e1:k=p<;>by_cases e2:k'=p
  ·rw[e1,e2]
  ·rw[E5 e1]at h3;rw[DX e2]at h4;cases h3;exact absurd h5.symm (hcell k' x' (hlive k' e2 N) h4)
  ·rw[DX e1]at h3;rw[E5 e2]at h4;cases h4;exact absurd h5 (hcell k x (hlive k e1 M) h3)
  ·rw[DX e1]at h3;rw[DX e2]at h4;exact hh.inj k k' x x' (hlive k e1 M) (hlive k' e2 N) h3 h4 h5
 ·have e1:k≠p:=λe1=>by subst e1;omega
  rw[gA,DX e1];apply hh.dom;have:=hoth k e1;rw[GE W]at this;exact List.getElem?_eq_none_iff.1 this.symm
 ·rw[gA]at W
  split at W
  ·cases W;exact(List.getElem?_eq_some_iff.1 Yd).1
  ·exact Ho (hh.rng k x W) hlen
 ·have U6:ν.z[j]? = some (.cells as' ty'):=hj;rw[dn j λe=>by rw[e]at U6;exact mV eq _ _ U6];exact hh.zl j as' ty' U6
 ·rw[gA]at hx
  by_cases e1:k=p
  ·rw[E5 e1]at hx;cases hx;exact eq
  ·rw[DX e1]at hx;exact hh.zn k x (hlive k e1 W) hx
def Lu (nV nS:Nat) (pl plA:Option Nat):Prop:=(pl=none/\plA=none)∨∃p,pl=some p/\plA=some (nS+(p-nV))
theorem C44 (hh:HR w0 ν nV nS h lh) {pl plA:Option Nat} (hp:Lu nV nS pl plA) {o:A7} {az:List af} {ty:TypeId} {c e:Nat} {K:Nat->List A7->BO α} {KA:Nat->List ar->Prop} (Ye:o≠.dead)
 (hb:∀p b lh',lh'[b]? = some (.cells az ty)->ν p=none->E0 w0 (y5 ν p (some (b,c,e))) nV nS lh' p o)
 (hs:bR LP (gz pl h o K) Qe) (hK:∀p b h' lh',((pl=none/\plA=none)∨(pl=some p/\plA=some b/\h'=h.set p o/\lh'=lh.set b (.cells az ty)/\p<h.length/\b<lh.length))->ν p=none->HR w0 (y5 ν p (some (b,c,e))) nV nS h' lh'->bR LP (K p h') Qe->KA b lh'):place plA lh (.cells az ty) KA:=by
 rcases hp with ⟨rfl,rfl⟩|⟨p,rfl,rfl⟩
 ·simp [gz]at hs
  rw[b5,yw]at hs;have hp:=hh.dom h.length (Em _)
  let ⟨M,_⟩:=hh.put (h':=h++[o]) (lh':=lh++[.cells az ty]) (p:=h.length) (b:=lh.length) (c:=c) (e:=e) (o:=o) (az:=az) (ty:=ty) hp av av
   (fun k W=>by
     rw[HO];split
     ·rfl
     ·rw[GE (by simp;omega),GE E])
   av
   (fun k W=>by
     rw[HO];split
     ·rfl
     ·rw[GE (by simp;omega),GE E])
   (by simp[isCells]) av
   (λk W _=>by let ⟨_,_,g3⟩:=hh.blk k _ W;have:=(List.getElem?_eq_some_iff.1 g3).1;omega)
   Ye (hb _ _ _ av hp)
  exact hK _ _ _ _ (.inl ⟨rfl,rfl⟩) hp M hs
 ·simp [gz,bq]at hs
  split at hs
  ·rename_i hd
   rw[jd]at hs
   let ⟨g1,g2,g3⟩:=hh.blk p _ hd
   refine⟨g3,?_⟩;have Qw:=(List.getElem?_eq_some_iff.1 hd).1;have hlt':=(List.getElem?_eq_some_iff.1 g3).1
   let ⟨M,_⟩:=hh.put (h':=h.set p o) (lh':=lh.set (nS+(p-nV)) (.cells az ty)) (p:=p) (b:=nS+(p-nV)) (c:=c) (e:=e) (o:=o) (az:=az) (ty:=ty) g1 (by simpa using Qw) (by simp[Qw])
    (λk W=>by simp[W.symm]) (by simp[hlt']) (λk W=>by simp[W.symm]) (by rw[g3];rfl) av
    (λk W SQ e1=>by let ⟨_,k2,_⟩:=hh.blk k _ W;omega)
    Ye (hb _ _ _ (by simp[hlt']) g1)
   exact hK _ _ _ _ (.inr ⟨rfl,rfl,rfl,rfl,Qw,hlt'⟩) g1 M hs
  ·exact hs.elim
theorem HR.set (hh:HR w0 ν nV nS h lh) {k b c e:Nat} {o:A7} {az:List af} {ty:TypeId} (W:bj h k) (hν:ν k=some (some (b,c,e))) (hc:isCells lh[b]? = true) (dn:ft [o] 0=true)
 (rX:E0 w0 ν nV nS (lh.set b (.cells az ty)) k o):HR w0 ν nV nS (h.set k o) (lh.set b (.cells az ty)):=by
 have Wy:k<h.length:=by rcases gD W with ⟨_,_,g⟩|⟨_,_,_,_,g⟩<;>exact(List.getElem?_eq_some_iff.1 g).1
 have hlive:∀ j,bj (h.set k o) j->bj h j:=λj hj=>by
  by_cases e1:j=k
  ·subst e1;exact W
  ·unfold bj ft at *;rw[bq]at *;rw[G1,DX (Ne.symm e1)]at hj;exact hj
 refine⟨λj o' hj=>?_,λj j' x x' M N=>hh.inj j j' x x' (hlive j M) (hlive j' N),λj hj=>hh.dom j (by simpa using hj),λj x hx=>by simpa using hh.rng j x hx,λj as' ty' hj=>?_,λj x hj hx=>hh.zn j x (hlive j hj) hx⟩
 case refine_2=>
  rw[G1,DX λe2=>?_]
  ·exact hh.zl j as' ty' hj
  ·subst e2;exact mV (hh.zn k _ W hν) _ _ hj
 by_cases e1:j=k
 ·subst e1;rw[G1,E5 rfl,E5 Wy]at hj;cases hj;exact rX
 ·rw [G1,DX (Ne.symm e1)]at hj
  by_cases hd:o'=.dead
  ·subst hd
   let ⟨g1,g2,g3⟩:=hh.blk j _ hj
   refine⟨g1,g2,?_⟩;rw[G1,DX (λe2=>by rw[← e2]at g3;rw[g3]at hc;cases hc)];exact g3
  ·by_cases hl:o'=.hid
   ·subst hl;trivial
   ·refine dT (Nu.sub_refl ν) hd (λb' as' ty' g1 g2=>?_) (hh.blk j _ hj)
    rw[G1,DX]
    ·exact g1
    ·intro e2
     subst e2
     let ⟨c',e',g3⟩:=g2
     have U7:bj h j:=by unfold bj ft;rw[bq,hj];cases o'<;>first|rfl|exact(hd rfl).elim|exact(hl rfl).elim
     exact e1 (hh.inj j k _ _ U7 W g3 hν rfl)
theorem HR.hide1 (hh:HR w0 ν nV nS h lh) (k:Nat):HR w0 ν nV nS (h.set k .hid) lh:=by
 have hlive:∀ j,bj (h.set k .hid) j->bj h j:=λj hj=>by
  by_cases e1:k=j
  ·subst e1;exfalso;rcases gD hj with ⟨_,_,g⟩|⟨_,_,_,_,g⟩<;>(rw[G1,E5 rfl]at g;split at g<;>cases g)
  ·unfold bj ft at *;rw[bq]at *
   rw[G1,DX e1]at hj;exact hj
 refine⟨λj o hj=>?_,λj j' x x' M N=>hh.inj j j' x x' (hlive j M) (hlive j' N),λj hj=>hh.dom j (by simpa using hj),hh.rng,hh.zl,λj x hj hx=>hh.zn j x (hlive j hj) hx⟩;rw[G1]at hj;split at hj
 ·split at hj
  ·cases hj;trivial
  ·cases hj
 ·exact hh.blk j o hj
end
section
variable {w0:World} {ν ν':Nu} {nV nS Qo:Nat} {h h':List A7} {lh lh':List ar} {α:Type} {LP:fK} {Qe:α->Prop} {e:bZ} {sl:List af} {ctx:Bool}
theorem AU (a:Addr) (i j:Nat):(a.add i).add j=a.add (i+j):=by
 unfold Addr.add;by_cases hi:i=0
 ·subst hi;simp
 ·by_cases hj:j=0
  ·subst hj;simp
  ·have:¬ (i+j=0):=by omega
   simp[hi,hj,this,Ik]
theorem ho2 (p:jp) (i j:Nat):(p.add i).add j=p.add (i+j):=by
 cases p with
 |l k off=>simp[jp.add,Ik]|g a=>simp[jp.add,AU]
theorem hl1 {a:Addr} {n i m:Nat} {az:List af} (hg:gT w0 a 0 n=some az) (Rb:i+m<=n):gT w0 (a.add i) 0 m=some ((az.drop i).take m):=by
 obtain⟨vs,rfl,hl,hc⟩:=eW n 0 az hg;have:=kO (w:=w0) (a:=a.add i) ((vs.drop i).take m) 0 (λj v U=>by
  rw[HW]at U;split at U
  ·rw[Hq]at U;rw[AU];have:=hc (i+j) v U;simpa using this
  ·cases U)
 rw[show((vs.drop i).take m).length=m by simp;omega]at this;rw[this];simp
theorem R53 {z:List ar} {p:jp} {n i m:Nat} {az:List af} (hl:lds w0 z p n=some az) (Rb:i+m<=n) (hz:wz z lh):lds w0 lh (p.add i) m=some ((az.drop i).take m):=by
 cases p with
 |g a=>exact hl1 hl Rb
 |l k off=>
   have N:=xX hz hl;simp[lds,jp.add]at N ⊢;split at N
   ·rename_i cs ty W
    split at N
    ·rename_i hlen;cases N;rw[E5 E,KH,IK,IW,JG E]
    ·cases N
   ·cases N
theorem sN {p:jp} {n:Nat} {az:List af} (hl:lds w0 lh p n=some az):az.length=n:=by
 cases p with
 |l k off=>
   simp[lds]at hl;split at hl
   ·split at hl
    ·cases hl;simp;omega
    ·cases hl
   ·cases hl
 |g a=>obtain⟨vs,rfl,N,_⟩:=eW n 0 az hl;simpa using N
theorem hq₂ {z:List ar} {p:jp} {n:Nat} {az:List af} {x:af} (hl:lds w0 z p n=some az) (hx:az[0]? = some x) (hz:wz z lh):ld w0 lh p=some x:=by
 cases p with
 |g a=>
   obtain⟨vs,rfl,N,h3⟩:=eW n 0 az hl;rw[List.getElem?_map]at hx;cases U:vs[0]? with
   |none=>rw[U]at hx;cases hx
   |some v=>rw[U]at hx;cases hx;have:=h3 0 v U;simp[Addr.add]at this;simp[ld,this]
 |l k off=>
   have N:=xX hz hl;simp[lds]at N;split at N
   ·rename_i cs ty W
    split at N
    ·cases N
     simp[ld,W];rw[HW]at hx;split at hx
     ·rw[Hq]at hx;exact hx
     ·cases hx
    ·cases N
   ·cases N
theorem E1 {v:V} {a:af} {K:V->BO α} (hc:ctx=true) (U:vr w0 lh ν v a) (hs:bR LP (ju ctx v K) Qe):∃ u,vr w0 lh ν u a/\bR LP (K u) Qe:=by
 unfold ju at hs;split at hs
 ·rename_i b u;simp[bR]at hs;simp[vr]at U;subst hc;exact⟨u,U.1 (hs.1 rfl),hs.2⟩
 ·exact⟨_,U,hs⟩
theorem D1 {v:V} {a:af} {K:V->BO α} (hc:ctx=true) (U:vr w0 lh ν v a) (hs:bR LP (ju ctx v K) Qe):∃ u,vr w0 lh ν u a/\bR LP (K u) Qe/\∀ h l,kv h v=some l->u=v:=by
 unfold ju at hs;split at hs
 ·rename_i b u;simp[bR]at hs;simp[vr]at U;subst hc;exact⟨u,U.1 (hs.1 rfl),hs.2,λh l hn=>by simp[kv]at hn⟩
 ·exact⟨_,U,hs,λ_ _ _=>rfl⟩
theorem bQ {x:gq} {K:V->BO α} (RH:gX w0 ν Qo e sl) (hc:ctx=true) (hs:bR LP (ju ctx (dM e x) K) Qe):∃u,vr w0 ν.z ν u (arg sl x)/\bR LP (K u) Qe:=E1 hc (RH.arg x) hs
theorem mg (RH:gX w0 ν Qo e sl) (hc:ctx=true):∀ {xs:List gq} {K:List V->BO α},bR LP (vF ctx e xs K) Qe->∃ us,bC w0 ν.z ν us (xs.map (arg sl))/\bR LP (K us) Qe
 |[],K,hs=>⟨[],by simp[bC],hs⟩
 |x::xs,K,hs=>by
   simp[vF]at hs
   let ⟨u,M,N⟩:=bQ RH hc hs
   let ⟨us,h3,h4⟩:=mg RH hc N
   exact⟨u::us,by simp only[GZ,bC];exact⟨_,_,rfl,M,h3⟩,h4⟩
def Zm (w0:World) (ν:Nu):Option V->Option af->Prop
 |none,a=>a=none|some v,a=>∃x,a=some x/\vr w0 ν.z ν v x
theorem l7 (RH:gX w0 ν Qo e sl) (hc:ctx=true) {x:Option gq} {K:Option V->BO α} (hs:bR LP (vC ctx e x K) Qe):∃ u,Zm w0 ν u (x.map (arg sl))/\bR LP (K u) Qe:=by
 cases x with
 |none=>exact⟨none,rfl,hs⟩
 |some x=>
   simp[vC]at hs
   let ⟨u,M,N⟩:=bQ RH hc hs
   exact⟨some u,⟨_,rfl,M⟩,N⟩
theorem gj {p:Prop} [Decidable p] {x:BO α} (hc:ctx=true) (hs:bR LP (yR ctx p x) Qe):p/\bR LP x Qe:=by simp[yR,bR]at hs;subst hc;exact⟨by simpa using hs.1 rfl,hs.2⟩
theorem eM {x:Option V} {xa:Option af} {y d:Nat} {K:Nat->BO α} {KA:Nat->Prop} (hc:ctx=true) (hx:Zm w0 ν x xa) (hs:bR LP (nI ctx x y d K) Qe) (hK:∀ n,(x=none->n=d)->(x≠none->n<=y)->bR LP (K n) Qe->KA n):bnd xa y d KA:=by
 cases x with
 |none=>simp[Zm]at hx;subst hx;exact hK d (λ_=>rfl) (λh=>(h rfl).elim) hs
 |some v=>
   simp[Zm]at hx;obtain⟨a,rfl,U⟩:=hx;cases v<;>simp[nI]at hs<;>try exact hs.elim
   simp[vr]at U;subst U
   let ⟨⟨M,N⟩,h3⟩:=gj hc hs
   exact⟨M,N,hK _ (λh=>by cases h) (λ_=>by omega) h3⟩
theorem uz {x:Option V} {xa:Option af} {y y' d:Nat} {KA:Nat->Prop} (hy:y<=y') (hb:bnd xa y d KA):bnd xa y' d KA:=by
 unfold bnd at *
 split at hb
 ·exact hb
 ·exact⟨hb.1,E,hb.2.2⟩
 ·exact hb.elim
theorem uH (RH:gX w0 ν Qo e sl) (hc:ctx=true):∀ {ps:List (Nat×Nat×gq)} {z:List V} {za:List af} {K:List V->BO α} {KA:List af->Prop},bC w0 ν.z ν z za->bR LP (ri ctx e ps z K) Qe ->
 (∀cs az,bC w0 ν.z ν cs az->bR LP (K cs) Qe->KA az)->parts sl ps za KA
 |[],z,za,K,KA,hz,hs,hK=>hK z za hz hs
 |(off,n,x)::ps,z,za,K,KA,hz,hs,hK=>by
   simp[ri]at hs
   let ⟨v,M,N⟩:=bQ RH hc hs
   cases hf:(v.flat&&Nat.beq (b7 v.cells) n) with
   |false=>rw[hf]at N;exact N.elim
   |true=>
     rw[hf]at N;simp[cond_true]at N;simp only[Eg]at hf
     let ⟨g1,g2⟩:=xy M hf.1
     have g3:=FF hf.2;rw[b5]at g3;split at N
     ·rename_i z' Yn;have hl:=qk Yn;have:=bV g2;have Xh:=bV hz;exact⟨g1,E,E,uH RH hc (yn hz g2 Yn) N hK⟩
     ·exact N.elim
def tR (w0:World) (QZ:FuncId->b6) (LP:fK) (md:Bool) (cf:CF α):Prop:=∀ (f:FuncId) (vs:List V) (h:List A7) (K:V->List A7->BO α) (Qe:α->Prop) (ν:Nu) (nV nS:Nat) (args:List af) (lh:List ar) (KA:af->List ar->Prop),
 bC w0 ν.z ν vs args->HR w0 ν nV nS h lh->bR LP (cf f vs h K) Qe->(∀v h' ν' a lh',(md=true->ν'=ν/\h'=h/\lh'=lh)->ν.sub ν'->HR w0 ν' nV nS h' lh'->vr w0 ν'.z ν' v a->bR LP (K v h') Qe->KA a lh')->QZ f w0 args lh KA
structure ze (ν ν':Nu) (wn:List Nat) (pl plA:Option Nat) (h h':List A7) (lh lh':List ar):Prop where
 len:lh'.length=lh.length
 chg:∀j,plA ≠ some j->(∀k x,k ∈ wn->ν k=some (some x)->x.1 ≠ j)->lh'[j]? = lh[j]?
 nw:∀k x,ν' k=some x->ν k=some x∨(pl=some k/\∀y,x=some y->(plA=some y.1∨∃k0 z,k0∈wn/\ν k0=some (some z)/\z.1=y.1))
 hlen:h'.length=h.length
 liv:∀k,bj h' k->bj h k∨pl=some k
 zz:ν'.z=ν.z
theorem ze.refl (ν:Nu) (wn:List Nat) (pl plA:Option Nat) (h:List A7) (lh:List ar):ze ν ν wn pl plA h h lh lh:=⟨rfl,λ_ _ _=>rfl,λ_ _ h=>.inl h,rfl,λ_ h=>.inl h,rfl⟩
theorem FJ (hh:HR w0 ν nV nS h lh) {v u:V} {a:af} (U:vr w0 ν.z ν v a) (hl:Le h v=some u) (VC:∀ k i j,v=.pe k i j->∀ e n f ty,h[k]? = some (.gl e n f ty)->i<n):∃ p x,a=.ptr (some p)/\ld w0 lh p=some x/\vr w0 ν.z ν u x:=by
 unfold Le at hl;split at hl
 ·rename_i k off
  rw[bq]at hl;split at hl
  ·rename_i cs ty W
   rw[bq]at hl
   let ⟨b,c,e,az,M,N,h3⟩:=hh.blk k _ W
   simp only[vr]at U;obtain⟨b',c',e',h4,rfl⟩:=U;rw[M]at h4;obtain⟨rfl,rfl,rfl⟩:_=b'/\_=c'/\_=e':=by simpa using h4
   let ⟨x,h5,h6⟩:=ou h3 hl
   exact⟨_,x,rfl,by simp[ld,N];exact h5,h6⟩
  ·cases hl
 ·rename_i k i j
  rw[bq]at hl;split at hl
  ·rename_i e n f ty W
   rw[bq]at hl;have hi:=VC k i j rfl _ _ _ _ W;simp[vr]at U;obtain⟨b',c',e',h4,rfl⟩:=U;rcases hh.blk k _ W with ⟨M,N⟩|⟨b,c,az,M,N,h3,hn,h5⟩
   ·omega
   ·rw [M]at h4
    obtain⟨rfl,rfl,rfl⟩:_=b'/\_=c'/\_=e':=by simpa using h4
    let ⟨x,h6,h7⟩:=ou (h5 i hi).2 hl
    refine⟨_,x,rfl,?_,h7⟩;rw[HW]at h6;split at h6
    ·rw[Hq]at h6;simp[ld,N];exact h6
    ·cases h6
  ·cases hl
 ·rename_i cs
  rw[bq]at hl;simp only[vr]at U;obtain⟨p,az,rfl,_,N,h3,_⟩:=U
  let ⟨x,h4,h5⟩:=ou h3 hl
  exact⟨p,x,rfl,hq₂ N h4 hh.zl,adq (Nu.nil_sub ν) _ _ h5⟩
 ·cases hl
theorem ahX (hh:HR w0 ν nV nS h lh) {v:V} {m:Nat} {us:List V} {a:af} (U:vr w0 ν.z ν v a) (hl:U8 h m v=some us) (VC:∀ k i j,v=.pe k i j->∀ e n f ty,h[k]? = some (.gl e n f ty)->i<n):∃ p xs,a=.ptr (some p)/\lds w0 lh p m=some xs/\bC w0 ν.z ν us xs:=by
 unfold U8 at hl;split at hl
 ·rename_i k off
  rw[bq]at hl;split at hl
  ·rename_i cs ty W
   obtain⟨g1,rfl⟩:=tk hl;obtain⟨b,c,e,az,M,N,h3⟩:=hh.blk k _ W;simp only[vr]at U;obtain⟨b',c',e',h4,rfl⟩:=U;rw[M]at h4;obtain⟨rfl,rfl,rfl⟩:_=b'/\_=c'/\_=e':=by simpa using h4
   refine⟨_,_,rfl,?_,jh m (gZ off h3)⟩;simp only[lds,N];rw[E5 (by have:=bV h3;omega)]
  ·cases hl
 ·rename_i k i j
  rw[bq]at hl;split at hl
  ·rename_i e n f ty W
   obtain⟨g1,rfl⟩:=tk hl;have hi:=VC k i j rfl _ _ _ _ W;simp[vr]at U;obtain⟨b',c',e',h4,rfl⟩:=U;rcases hh.blk k _ W with ⟨M,N⟩|⟨b,c,az,M,N,h3,hn,h5⟩
   ·omega
   ·rw[M]at h4
    obtain⟨rfl,rfl,rfl⟩:_=b'/\_=c'/\_=e':=by simpa using h4
    obtain⟨ho,RZ⟩:=h5 i hi;have hlen:=bV RZ;unfold nM at ho;simp only[Eg]at ho;have h8:=FF ho.1;rw[b5]at h8;have Rb:i*e+e<=c*e:=by rw[← GW];exact Ga e E
    refine⟨_,_,rfl,?_,jh m (gZ j RZ)⟩;simp only[lds,N];rw[E5 E,KH,IK,IW,JG E]
  ·cases hl
 ·rename_i cs
  obtain⟨g1,rfl⟩:=yr hl;simp only[vr]at U;obtain⟨p,az,rfl,_,N,h3,_⟩:=U;refine⟨p,az.take m,rfl,?_,jh m (lq (Nu.nil_sub ν) _ _ h3)⟩;have:=R53 (i:=0) (m:=m) N E hh.zl;have e0:p.add 0=p:=by cases p<;>simp[jp.add,Addr.add]
  rw[e0]at this;simpa using this
 ·cases hl
theorem wH {v:V} {x:BO α} (hc:ctx=true) (hs:bR LP (Wj ctx h v x) Qe):(∀ k i j,v=.pe k i j->∀ e n f ty,h[k]? = some (.gl e n f ty)->i<n)/\bR LP x Qe:=by
 unfold Wj at hs;split at hs
 ·rename_i k i j
  rw[bq]at hs;split at hs
  ·rename_i e n f ty W
   let ⟨M,N⟩:=gj hc hs
   exact⟨λk' i' j' he e' n' f' ty' SP=>by cases he;rw[W]at SP;cases SP;exact M,N⟩
  ·exact hs.elim
 ·rename_i SQ;exact⟨λk i j he=>(SQ k i j he).elim,hs⟩
theorem xA:∀ (us az:List af) (off t:Nat),off+us.length<=az.length->(wr az off us)[t]? = if off<=t/\t<off+us.length then us[t-off]? else az[t]?
 |[],az,off,t,h=>by simp only[wr];rw[DX (by simp only[Hs];omega)]
 |u::us,az,off,t,h=>by
   simp only[wr];simp only[HC]at h;rw[xA us _ _ _ (by simp;omega)];by_cases M:off+1<=t/\t<off+1+us.length
   ·rw[E5 M,E5 ⟨E,by simp;omega⟩,show t-off=(t-(off+1))+1 by omega];simp
   ·rw [DX M]
    by_cases N:t=off
    ·subst N;rw[G1,E5 rfl,E5 E,E5 ⟨Em _,av⟩];simp
    ·rw[G1,DX (Ne.symm N),DX (by simp;omega)]
theorem ic12 {az us:List af} {e i i' j:Nat} (SQ:i'≠i) (hj:j+us.length<=e) (hl:i*e+j+us.length<=az.length):((wr az (i*e+j) us).drop (i'*e)).take e=(az.drop (i'*e)).take e:=by
 apply Hg;intro t;rw[HW,HW];split
 ·rename_i ht
  rw[Hq,Hq,xA _ _ _ _ hl,DX];intro ⟨M,N⟩;rcases Hl i' i with h3|h3
  ·have:i'*e+e<=i*e:=by rw[← GW];exact Ga e h3
   omega
  ·have:i*e+e<=i'*e:=by rw[← GW];exact Ga e E
   omega
 ·rfl
theorem hpe {az us:List af} {e i j:Nat} (hj:j+us.length<=e) (hl:i*e+e<=az.length):((wr az (i*e+j) us).drop (i*e)).take e=wr ((az.drop (i*e)).take e) j us:=by
 apply Hg;intro t;rw[xA _ _ _ _ (by simp;omega),HW];split
 ·rename_i ht
  rw[Hq,xA _ _ _ _ E];by_cases M:j<=t/\t<j+us.length
  ·rw[E5 M,E5 E];congr 1;omega
  ·rw[DX M,DX E,HW,E5 ht,Hq]
 ·rename_i ht;rw[DX E,HW,DX ht]
theorem xb:∀ {cs:List V} {off:Nat} {xs r:List V},rF cs off xs=some r->cs.all V.one=true->xs.all V.one=true->r.all V.one=true
 |cs,0,[],r,h,M,N=>by simp[rF]at h;subst h;exact M
 |[],0,x::xs,r,h,M,N=>by simp[rF]at h
 |c::cs,0,x::xs,r,h,M,N=>by
   simp[rF]at h;split at h
   ·rename_i r' hr;cases h;simp only[Gw,Eg]at M N ⊢;exact⟨N.1,xb hr M.2 N.2⟩
   ·cases h
 |[],off+1,xs,r,h,M,N=>by simp[rF]at h
 |c::cs,off+1,xs,r,h,M,N=>by
   simp[rF]at h;split at h
   ·rename_i r' hr;cases h;simp only[Gw,Eg]at M ⊢;exact⟨M.1,xb hr M.2 N⟩
   ·cases h
theorem FI:∀ (cs:List V) (j:Nat) (xs:List V),j+xs.length<=cs.length->rF cs j xs=some (cs.take j++(xs++cs.drop (j+xs.length)))
 |cs,0,[],_=>by simp[rF]
 |[],0,x::xs,h=>by simp at h
 |c::cs,0,x::xs,h=>by simp[rF];rw[FI cs 0 xs (by simp at h ⊢;omega)];simp
 |[],j+1,xs,h=>by simp at h
 |c::cs,j+1,xs,h=>by simp[rF];rw[FI cs j xs (by simp at h;omega)];simp[show j+1+xs.length=(j+xs.length)+1 by omega]
theorem aeH (cs:List V) (j:Nat) (xs:List V):∀ (m t k:Nat),(XG cs j xs t m)[k]? = if k<m then some (cond (Nat.ble j (t+k)&&Nat.blt (t+k) (j+b7 xs)) (Ko xs (t+k-j)) (Ko cs (t+k))) else none
 |0,t,k=>by simp[XG]
 |m+1,t,0=>by simp[XG]
 |m+1,t,k+1=>by
   simp only[XG,He];rw[aeH cs j xs m (t+1) k,show t+1+k=t+(k+1) by omega];by_cases h:k<m
   ·rw[E5 h,E5 E]
   ·rw[DX h,DX E]
theorem uq {l:List V} {i:Nat} (h:i<l.length):l[i]? = some (Ko l i):=by unfold Ko;rw[bq,HU h]
theorem apK {e:Nat} {cs:List V} (h:cs.length=e) (j:Nat) (xs:List V):M8 e cs j xs=rF cs j xs:=by
 unfold M8;rw[b5];cases hb:Nat.ble (j+xs.length) e with
 |false=>
   cases hw:rF cs j xs with
   |none=>rfl
   |some r=>have:=(qk hw).1;rw[Hj E]at hb;cases hb
 |true=>
   have Rb:=G2 hb;rw[FI cs j xs E];simp[cond_true,Et];apply Hg;intro k;rw[aeH,Gh,b5,HO,HO,HW,Hq,MV];by_cases M:k<j
   ·have SU:Nat.ble j k=false:=by
     cases hq:Nat.ble j k with
     |false=>rfl|true=>have:=G2 hq;omega
    rw[E5 E,E5 E,E5 M,SU];exact(uq E).symm
   ·have SU:Nat.ble j k=true:=Hj E
    by_cases N:k<j+xs.length
    ·have SL:Nat.blt k (j+xs.length)=true:=Hj N;rw[E5 E,DX E,E5 E,SU,SL,show min j cs.length=j by omega];exact(uq E).symm
    ·have SL:Nat.blt k (j+xs.length)=false:=by
      cases hq:Nat.blt k (j+xs.length) with
      |false=>rfl|true=>have:=G2 hq;omega
     have e1:j+xs.length+(k-min j cs.length-xs.length)=k:=by omega
     by_cases h3:k<e
     ·rw[E5 h3,DX E,DX E,SU,SL,e1];exact(uq E).symm
     ·rw[DX h3,DX E,DX E,e1,GE E]
theorem hpl {v:V} (h:v.flat=true):v.cells.all V.one=true:=by cases v<;>first|exact h|(simp[V.flat,V.cells,V.one]at h ⊢)
theorem asp (hh:HR w0 ν nV nS h lh) {v:V} {xs:List V} {us:List af} {a:af} (U:vr w0 ν.z ν v a) (hx:bC w0 ν.z ν xs us) (ho:xs.all V.one=true) (hl:WV h xs v=some h') (VC:∀ k i j,v=.pe k i j->∀ e n f ty,h[k]? = some (.gl e n f ty)->i<n) :
 ∃b off cs ty k c e,a=.ptr (some (.l b off))/\lh[b]? = some (.cells cs ty)/\off+us.length<=cs.length/\HR w0 ν nV nS h' (lh.set b (.cells (wr cs off us) ty))/\kv h v=some [k]/\ν k=some (some (b,c,e)):=by
 unfold WV at hl;split at hl
 ·rename_i k off
  rw[bq]at hl;split at hl
  ·rename_i cs ty W
   split at hl
   ·rename_i r hr
    cases hl
    let ⟨b,c,e,az,M,N,h3⟩:=hh.blk k _ W
    simp only[vr]at U;obtain⟨b',c',e',h4,rfl⟩:=U;rw[M]at h4;obtain⟨rfl,rfl,rfl⟩:_=b'/\_=c'/\_=e':=by simpa using h4
    have Wz:=eC W;have Qw:=(List.getElem?_eq_some_iff.1 N).1;refine⟨b,off,az,ty,k,c,e,rfl,N,by have:=qk hr;have:=bV h3;have:=bV hx;omega,?_,?_,M⟩
    ·rw[jd];refine hh.set Wz M (by rw[N];rfl) rfl ⟨b,c,e,wr az off us,M,by simp[Qw],yn h3 hx hr⟩
    ·simp[kv];unfold bj at Wz;rw[Wz];rfl
   ·cases hl
  ·cases hl
 ·rename_i k i j
  rw[bq]at hl;split at hl
  ·rename_i e n f ty W
   cases TE:Nat.ble (j+b7 xs) e with
   |false=>rw[TE]at hl;cases hl
   |true=>
     rw[TE]at hl;cases hl;have hr:M8 e (f i) j xs=some (XG (f i) j xs 0 e):=by unfold M8;rw[TE];rfl
     revert hr;generalize VP:XG (f i) j xs 0 e=r;intro hr;have hi:=VC k i j rfl _ _ _ _ W;simp[vr]at U;obtain⟨b',c',e',h4,rfl⟩:=U;have Wz:=iw W;rcases hh.blk k _ W with ⟨M,N⟩|⟨b,c,az,M,N,h3,hn,h5⟩
     ·omega
     ·rw [M]at h4
      obtain⟨rfl,rfl,rfl⟩:_=b'/\_=c'/\_=e':=by simpa using h4
      have Qw:=(List.getElem?_eq_some_iff.1 N).1
      let ⟨Tb,RZ⟩:=h5 i hi
      have izb23:=bV hx;have hlen:=bV RZ;unfold nM at Tb;simp only[Eg]at Tb;have h8:=FF Tb.1;rw[b5]at h8;rw[apK h8]at hr;have ny14:=qk hr;have Rb:i*e+e<=c*e:=by rw[← GW];exact Ga e E
      refine⟨b,i*e+j,az,ty,k,c,e,rfl,N,E,?_,?_,M⟩
      ·rw [jd]
       refine hh.set Wz M (by rw[N];rfl) rfl (.inr ⟨b,c,wr az (i*e+j) us,M,by simp[Qw],by rw[qe];exact h3,hn,λi' Rk=>?_⟩);by_cases he:i'=i
       ·subst he
        simp[VX,Nat.beq_refl,cond_true,VP];refine⟨?_,?_⟩
        ·unfold nM;simp only[Eg];exact⟨by rw[b5,ny14.2,h8];simp,xb hr Tb.2 ho⟩
        ·rw[hpe E E];exact yn RZ hx hr
       ·have:Nat.beq i' i=false:=by
         cases hb:Nat.beq i' i with
         |false=>rfl|true=>exact(he (FF hb)).elim
        simp[VX,this,cond_false];refine⟨(h5 i' Rk).1,?_⟩;rw[ic12 he E E];exact(h5 i' Rk).2
      ·simp[kv];unfold bj at Wz;rw[Wz];rfl
  ·cases hl
 ·cases hl
end
section
variable {w0:World} {ν ν':Nu} {nV nS Qo:Nat} {h h':List A7} {lh lh':List ar} {α:Type} {LP:fK} {Qe:α->Prop} {e:bZ} {sl:List af} {ctx:Bool}
theorem dh:∀ {n:Nat} {p:Nat->Bool},fM n p=true->∀ i,i<n->p i=true
 |0,p,_,i,hi=>by omega
 |n+1,p,hp,i,hi=>by
   simp[fM,Eg]at hp;by_cases e:i=n
   ·subst e;exact hp.2
   ·exact dh hp.1 i E
theorem gN:∀ {n:Nat} {p:Nat->Bool},(∀ i,i<n->p i=true)->fM n p=true
 |0,p,_=>rfl|n+1,p,hp=>by simp[fM,Eg];exact⟨gN λi hi=>hp i E,hp n E⟩
theorem hi1 {a:Addr}:∀ (n i:Nat),(∀ t,t<n->∃ v,w0.cell? (a.add (i+t))=some v)->∃ az,gT w0 a i n=some az
 |0,i,_=>⟨[],rfl⟩
 |n+1,i,hc=>by
   let ⟨v,U⟩:=hc 0 E
   obtain⟨az,has⟩:=hi1 n (i+1) (λt ht=>by have:=hc (t+1) E;rw[show i+1+t=i+(t+1) by omega];exact this);exact⟨bS v::az,by simp[gT,has];simp[I6]at U;rw[U]⟩
theorem nT {esz:Nat} {l:List V} (ho:nM esz l=true):l.length=esz/\l.all V.one=true:=by unfold nM at ho;simp only[Eg]at ho;exact⟨by rw[← b5];exact FF ho.1,ho.2⟩
theorem GK {esz:Nat} {l:List V} (M:l.length=esz) (N:l.all V.one=true):nM esz l=true:=by unfold nM;rw[b5,M,N];simp
theorem jY {esz:Nat}:∀ {n:Nat} {az:List af},az.length=n*esz->(∀ i,i<n->((az.drop (i*esz)).take esz).all af.one=true)->az.all af.one=true
 |0,az,hl,_=>by simp at hl;subst hl;rfl
 |n+1,az,hl,hc=>by rw[← MY esz az,List.all_append,Eg];refine⟨by have:=hc 0 E;simpa using this,jY (esz:=esz) (n:=n) (by simp[hl,GW]) (λi hi=>?_)⟩;have:=hc (i+1) E;rw[IK,show esz+i*esz=(i+1)*esz by rw[GW];omega];exact this
theorem ol {az:List af} {n esz i:Nat} (hi:i<n):((az.take (n*esz)).drop (i*esz)).take esz=(az.drop (i*esz)).take esz:=by
 have:i*esz+esz<=n*esz:=by rw[← GW];exact Ga esz hi
 rw[KH,IW,JG E]
theorem hqs {α:Type} {az:List α} {n esz i:Nat} (hl:az.length=n*esz) (hi:i<n):((az.drop (i*esz)).take esz).length=esz:=by
 have:i*esz+esz<=n*esz:=by rw[← GW];exact Ga esz hi
 simp;omega
theorem R49 {α:Type} {p:α->Bool} {l:List α} (a b:Nat) (hl:l.all p=true):((l.drop a).take b).all p=true:=by
 rw[JF]at *
 exact λx hx=>hl x (List.mem_of_mem_drop (List.mem_of_mem_take hx))
theorem agm (hh:HR w0 ν nV nS h lh) {x:V} {a:af} {esz m:Nat} {g:bk} (U:vr w0 ν.z ν x a) (hs:Fu h esz x=some (m,g,true)) :
 ∃At c new,a=.slice At m c/\cellsOf w0 lh At (m*esz)=some new/\new.length=m*esz/\new.all af.one=true/\∀i,i<m->nM esz (g i)=true/\bC w0 ν.z ν (g i) ((new.drop (i*esz)).take esz):=by
 unfold Fu at hs;split at hs
 ·cases hs;simp only[vr]at U;subst U;exact⟨none,0,[],rfl,by simp[cellsOf],av,rfl,λi hi=>by omega⟩
 ·rename_i n f
  simp only[Et,Prod.mk.injEq]at hs;obtain⟨rfl,rfl,Tb⟩:=hs;have Tb:=dh Tb;simp only[vr]at U;obtain⟨p,c,esz',rfl,_,_,hp,Ri⟩:=U;cases n with
  |zero=>
    refine⟨p,c,[],rfl,?_,av,rfl,λi hi=>by omega⟩;cases p with
    |none=>simp[cellsOf]
    |some At=>cases At with|l k off=>obtain⟨cs,ty,M,N⟩:=hp;simp[cellsOf,lds,hh.zl _ _ _ M,N]|g a=>simp[cellsOf,lds,gT]
  |succ n=>
    obtain⟨At,as0,rfl,de,vS⟩:=Ri 0 E;have Rs:esz'=esz:=by have:=sN de;have M:=bV vS.1;have N:=(nT (Tb 0 E)).1;omega
    subst Rs;cases At with
    |l k off=>
      have hel':∀ i,i<n+1->∃ cs ty,ν.z[k]? = some (.cells cs ty)/\off+i*esz'+esz'<=cs.length/\bC w0 ν.z ν (f i) ((cs.drop (off+i*esz')).take esz'):=λi hi=>by
       obtain⟨q',az,e1,e2,e3,_⟩:=Ri i hi;cases e1;simp only[jp.add,lds]at e2;split at e2
       ·rename_i cs ty W
        split at e2
        ·rename_i Rb;cases e2;exact⟨cs,ty,W,Rb,lq (Nu.nil_sub ν) _ _ e3⟩
        ·cases e2
       ·cases e2
      obtain⟨cs,ty,c1,c2,_⟩:=hel' n E;have hm:(n+1)*esz'=n*esz'+esz':=GW n esz';have hlen:((cs.drop off).take ((n+1)*esz')).length=(n+1)*esz':=by simp;omega
      have T2:∀i,i<n+1->nM esz' (f i)=true/\bC w0 ν.z ν (f i) ((((cs.drop off).take ((n+1)*esz')).drop (i*esz')).take esz'):=λi hi=>by obtain⟨cs',ty',d1,d2,d3⟩:=hel' i hi;rw[c1]at d1;cases d1;refine⟨Tb i hi,?_⟩;rw[ol hi,IK];exact d3
      refine⟨_,c,_,rfl,?_,hlen,jY hlen λi hi=>kY (T2 i hi).2 (nT (T2 i hi).1).2,T2⟩;simp only[cellsOf,lds,hh.zl _ _ _ c1];rw[E5 E]
    |g a=>
      have hel':∀i,i<n+1->∃az,gT w0 (a.add (i*esz')) 0 esz'=some az/\bC w0 ν.z ν (f i) az:=λi hi=>by obtain⟨q',az,e1,e2,e3,_⟩:=Ri i hi;cases e1;exact⟨az,e2,lq (Nu.nil_sub ν) _ _ e3⟩
      obtain⟨new,hnew⟩:=hi1 (w0:=w0) (a:=a) ((n+1)*esz') 0 (λt ht=>by
       by_cases he:esz'=0
       ·subst he;simp at ht
       ·have hi:t / esz'<n+1:=by
         rw[Nat.div_lt_iff_lt_mul E];exact ht
        obtain⟨az,e1,_⟩:=hel' _ hi;obtain⟨vs,_,hl,hc⟩:=eW _ _ _ e1;have hm:t % esz'<vs.length:=by rw[hl];exact Ip _ E
        have:=hc (t % esz') _ (HU hm);rw[AU]at this;rw[Gh]at this;rw[Nat.mul_comm,Nat.div_add_mod]at this;exact⟨_,by rw[Gh];exact this⟩)
      have hlen:new.length=(n+1)*esz':=by obtain⟨vs,rfl,N,_⟩:=eW _ 0 new hnew;simpa using N
      have T2:∀ i,i<n+1->nM esz' (f i)=true/\bC w0 ν.z ν (f i) ((new.drop (i*esz')).take esz'):=λi hi=>by
       obtain⟨az,e1,e2⟩:=hel' i hi;have Rb:i*esz'+esz'<=(n+1)*esz':=by rw[← GW];exact Ga esz' hi
       have:=hl1 hnew Rb;rw[e1]at this;cases this;exact⟨Tb i hi,e2⟩
      exact⟨_,c,new,rfl,hnew,hlen,jY hlen λi hi=>kY (T2 i hi).2 (nT (T2 i hi).1).2,T2⟩
 ·rename_i k n
  rw[bq]at hs;split at hs
  ·rename_i e n' f ty W
   cases he:Nat.beq e esz with
   |false=>rw[he]at hs;cases hs
   |true=>
     rw[he]at hs;have:=FF he;subst this;simp only[cond_true,Et,Prod.mk.injEq]at hs;obtain⟨rfl,rfl,Rb⟩:=hs;have Rb:=G2 Rb;simp only[vr]at U;rcases hh.blk k _ W with ⟨M,N⟩|⟨b,c,az,M,N,h3,hn,h5⟩
     ·rcases U with ⟨_,h3,h4⟩|⟨b,c,e,h3,_⟩
      ·subst h3 h4;exact⟨none,0,[],rfl,by simp[cellsOf],av,rfl,λi hi=>by omega⟩
      ·rw[M]at h3;cases h3
     ·rcases U with ⟨h6,_⟩|⟨b',c',e',h6,rfl,hnc0⟩
      ·rw[M]at h6;cases h6
      ·rw [M]at h6
       obtain⟨rfl,rfl,rfl⟩:_=b'/\_=c'/\_=e':=by simpa using h6
       have UI:n*e<=c*e:=Ga e E;have hlen:(az.take (n*e)).length=n*e:=by simp;omega
       have T2:∀i,i<n->nM e (f i)=true/\bC w0 ν.z ν (f i) (((az.take (n*e)).drop (i*e)).take e):=λi hi=>by rw[ol hi];exact h5 i E
       refine⟨_,c,az.take (n*e),rfl,?_,hlen,jY hlen λi hi=>kY (T2 i hi).2 (nT (T2 i hi).1).2,T2⟩;simp only[cellsOf,lds,N];rw[E5 E];simp
  ·cases hs
 ·rename_i k off n c0
  rw[bq]at hs;split at hs
  ·rename_i cs ty W
   split at hs
   ·rename_i ds Wv
    cases hd:ds.all V.one with
    |false=>rw[hd]at hs;cases hs
    |true=>
      rw[hd]at hs;simp only[cond_true]at hs;obtain⟨g1,rfl⟩:=tk Wv;obtain⟨b,c,e,az,M,N,h3⟩:=hh.blk k _ W;simp only[vr]at U;obtain⟨b',c',e',h4,rfl⟩:=U;rw[M]at h4;obtain⟨rfl,rfl,rfl⟩:_=b'/\_=c'/\_=e':=by simpa using h4
      have ce:=bV h3;have RZ:=jh (n*esz) (gZ off h3);have hlen:((az.drop off).take (n*esz)).length=n*esz:=by simp;omega
      have hlenV:((cs.drop off).take (n*esz)).length=n*esz:=by simp;omega
      have SE:cellsOf w0 lh (some (.l b off)) (n*esz)=some ((az.drop off).take (n*esz)):=by simp only[cellsOf,lds,N];rw[E5 E]
      have hone:=kY RZ hd;split at hs
      ·simp only[Et,Prod.mk.injEq]at hs
       obtain⟨rfl,rfl,_⟩:=hs;refine⟨_,c0,_,rfl,SE,hlen,hone,λi hi=>?_⟩;have:i=0:=by omega
       subst this;simp only[Nat.one_mul]at *
       refine⟨GK hlenV hd,?_⟩;simp only[Nat.zero_mul,List.drop_zero,IW,Nat.min_self];exact RZ
      ·simp only[Et,Prod.mk.injEq]at hs;obtain⟨rfl,rfl,_⟩:=hs;exact⟨_,c0,_,rfl,SE,hlen,hone,λi hi=>⟨GK (hqs hlenV hi) (R49 _ _ hd),jh esz (gZ (i*esz) RZ)⟩⟩
   ·cases hs
  ·cases hs
 ·rename_i k off n
  rw[bq]at hs;split at hs
  ·rename_i e n' f ty W
   cases he:Nat.beq e esz with
   |false=>rw[he]at hs;cases hs
   |true=>
     rw[he]at hs;have:=FF he;subst this;simp only[cond_true,Et,Prod.mk.injEq]at hs;obtain⟨rfl,rfl,Rb⟩:=hs;have Rb:=G2 Rb;simp only[vr]at U;rcases hh.blk k _ W with ⟨M,N⟩|⟨b,c,az,M,N,h3,hn,h5⟩
     ·rcases U with ⟨_,h3,_,h4⟩|⟨b,c,e,o,h3,_⟩
      ·subst h3 h4;exact⟨none,0,[],rfl,by simp[cellsOf],av,rfl,λi hi=>by omega⟩
      ·rw[M]at h3;cases h3
     ·rcases U with ⟨h6,_⟩|⟨b',c',e',o,h6,rfl,⟨izb0,nza12⟩,iza9⟩
      ·rw[M]at h6;cases h6
      ·rw [M]at h6
       obtain⟨rfl,rfl,rfl⟩:_=b'/\_=c'/\_=e':=by simpa using h6
       by_cases VA:n=0
       ·subst VA;refine⟨_,c-off,[],rfl,?_,av,rfl,λi hi=>by omega⟩;simp only[cellsOf,lds,N];rw[E5 E];simp
       ·have ho:=iza9 E
        subst ho;have UI:off*e+n*e<=c*e:=by rw[← Hm];exact Ga e izb0
        have hlen:((az.drop (off*e)).take (n*e)).length=n*e:=by simp;omega
        have T2:∀i,i<n->nM e (f (off+i))=true/\bC w0 ν.z ν (f (off+i)) ((((az.drop (off*e)).take (n*e)).drop (i*e)).take e):=λi hi=>by rw[ol hi,IK,← Hm];exact h5 (off+i) E
        refine⟨_,c-off,(az.drop (off*e)).take (n*e),rfl,?_,hlen,jY hlen λi hi=>kY (T2 i hi).2 (nT (T2 i hi).1).2,T2⟩;simp only[cellsOf,lds,N];rw[E5 E]
  ·cases hs
 ·cases hs
theorem ak9 {esz n m:Nat} {f g:bk} {old new tail az:List af} (has:az=old++new++tail) (ho:old.length=n*esz) (hn:new.length=m*esz)
 (M:∀i,i<n->nM esz (f i)=true/\bC w0 ν.z ν (f i) ((old.drop (i*esz)).take esz)) (N:∀i,i<m->nM esz (g i)=true/\bC w0 ν.z ν (g i) ((new.drop (i*esz)).take esz)) :
 ∀i,i<n+m->nM esz (bH n f g i)=true/\bC w0 ν.z ν (bH n f g i) ((az.drop (i*esz)).take esz):=by
 intro i hi;subst has;unfold bH;by_cases Qw:i<n
 ·have hb:Nat.blt i n=true:=Hj Qw
  rw[hb];have:i*esz+esz<=n*esz:=by rw[← GW];exact Ga esz Qw
  simp only[cond_true];rw[JE,MM E,Jg (by simp;omega)];exact M i Qw
 ·have hb:Nat.blt i n=false:=by
   cases hb:Nat.blt i n with
   |false=>rfl|true=>have:=G2 hb;omega
  rw[hb];have Rk:i-n<m:=by omega
  have e1:i*esz=n*esz+(i-n)*esz:=by rw[← Hm];congr 1;omega
  have e2:(i-n)*esz+esz<=m*esz:=by rw[← GW];exact Ga esz Rk
  simp only[cond_false];rw[e1,← IK,JE,← ho,List.drop_left,MM E,Jg (by simp;omega)];exact N _ Rk
theorem hide_get {k j:Nat} {o:A7} (hj:(h.set k .hid)[j]? = some o) (ho:o≠.hid):h[j]? = some o/\j≠k:=by
 rw[G1]at hj;split at hj
 ·split at hj
  ·cases hj;exact(ho rfl).elim
  ·cases hj
 ·rename_i SQ;exact⟨hj,λe=>SQ e.symm⟩
theorem HR.move (hh:HR w0 ν nV nS h lh) {p k b c e esz n:Nat} {f:bk} {ty:TypeId} {az:List af} (hp:ν p=none) (T8:p<h'.length) (W:ν k=some (some (b,c,e))) (T5:bj h k)
 (ho:h'[p]? = some (.gl esz n f ty)) (hoth:∀j,j ≠ p->h'[j]? = (h.set k .hid)[j]?) (Yd:∃as0 t0,lh[b]? = some (.cells as0 t0))
 (hlen:az.length=c*esz) (hn:n<=c/\n<=9223372036854775807) (Ri:∀i,i<n->nM esz (f i)=true/\bC w0 ν.z ν (f i) ((az.drop (i*esz)).take esz)) :
 HR w0 (y5 ν p (some (b,c,esz))) nV nS h' (lh.set b (.cells az ty))/\ν.sub (y5 ν p (some (b,c,esz))):=by
 have hs:=kN (x:=some (b,c,esz)) hp;have new6:p≠k:=λe1=>by subst e1;rw[hp]at W;cases W
 let ⟨as0,t0,SH⟩:=Yd
 have TE:=(List.getElem?_eq_some_iff.1 SH).1;have hlive:∀ j,j≠p->bj h' j->bj h j/\j≠k:=λj hj hl=>by
  rcases gD hl with ⟨_,_,g⟩|⟨_,_,_,_,g⟩
  ·rw[hoth j hj]at g
   let ⟨g1,g2⟩:=hide_get g av
   exact⟨eC g1,g2⟩
  ·rw[hoth j hj]at g
   let ⟨g1,g2⟩:=hide_get g av
   exact⟨iw g1,g2⟩
 refine⟨⟨λj o hj=>?_,λj j' x x' M N h3 h4 h5=>?_,λj hj=>?_,λj x hj=>?_,λj as' ty' hj=>?_,λj x hj hx=>?_⟩,hs⟩
 ·by_cases e1:j=p
  ·subst e1;rw[ho]at hj;cases hj;exact .inr ⟨b,c,az,gF _ _ _,by simp[TE],hlen,hn,λi hi=>⟨(Ri i hi).1,E3 hs _ _ (Ri i hi).2⟩⟩
  ·rw [hoth j e1]at hj
   by_cases Vx:o=.hid
   ·subst Vx;trivial
   ·let ⟨g1,g2⟩:=hide_get hj Vx
    by_cases hd:o=.dead
    ·subst hd
     let ⟨k1,k2,k3⟩:=hh.blk j _ g1
     refine⟨by rw[gA,DX e1];exact k1,k2,?_⟩;rw[G1,DX (λe2=>by rw[← e2,SH]at k3;cases k3)];exact k3
    ·refine dT hs hd (λb' as' ty' q1 q2=>?_) (hh.blk j _ g1)
     rw[G1,DX]
     ·exact q1
     ·intro e2
      subst e2
      let ⟨c',e',q3⟩:=q2
      have U7:bj h j:=by unfold bj ft;rw[bq,g1];cases o<;>first|rfl|exact(hd rfl).elim|exact(Vx rfl).elim
      exact g2 (hh.inj j k _ _ U7 T5 q3 W rfl)
 ·rw [gA]at h3 h4
  by_cases e1:j=p<;>by_cases e2:j'=p
  ·rw[e1,e2]
  ·rw[E5 e1]at h3;rw[DX e2]at h4;cases h3
   let ⟨g1,g2⟩:=hlive j' e2 N
   exact absurd (hh.inj j' k _ _ g1 T5 h4 W h5.symm) g2
  ·rw[DX e1]at h3;rw[E5 e2]at h4;cases h4
   let ⟨g1,g2⟩:=hlive j e1 M
   exact absurd (hh.inj j k _ _ g1 T5 h3 W h5) g2
  ·rw[DX e1]at h3;rw[DX e2]at h4;exact hh.inj j j' x x' (hlive j e1 M).1 (hlive j' e2 N).1 h3 h4 h5
 ·have e1:j≠p:=λe1=>by subst e1;omega
  rw[gA,DX e1];apply hh.dom;have:=hoth j e1;rw[GE hj]at this;have:=List.getElem?_eq_none_iff.1 this.symm;simpa using this
 ·rw[gA]at hj
  split at hj
  ·cases hj;simpa using TE
  ·simpa using hh.rng j x hj
 ·have U6:ν.z[j]? = some (.cells as' ty'):=hj
  rw[G1,DX λe2=>?_]
  ·exact hh.zl j as' ty' U6
  ·subst e2;exact mV (hh.zn k _ T5 W) _ _ U6
 ·rw[gA]at hx
  by_cases e1:j=p
  ·rw[E5 e1]at hx;cases hx;exact hh.zn k (b,c,e) T5 W
  ·rw[DX e1]at hx;exact hh.zn j x (hlive j e1 hj).1 hx
theorem HR.renu (hh:HR w0 ν nV nS h lh) {p k b c e esz:Nat} {f:bk} {ty:TypeId} {az:List af} (hp:ν p=none) (T8:p<h'.length) (W:ν k=some (some (b,c,e))) (T5:bj h k)
 (ho:h'[p]? = some (.gl esz 0 f ty)) (hoth:∀j,j ≠ p->h'[j]? = (h.set k .hid)[j]?) (Yd:∃as0 t0,lh[b]? = some (.cells as0 t0)) (has:az=[]) :
 HR w0 (y5 ν p (some (b,0,esz))) nV nS h' (lh.set b (.cells az ty))/\ν.sub (y5 ν p (some (b,0,esz))):=by
 subst has;have hs:=kN (x:=some (b,0,esz)) hp;have new6:p≠k:=λe1=>by subst e1;rw[hp]at W;cases W
 let ⟨as0,t0,SH⟩:=Yd
 have TE:=(List.getElem?_eq_some_iff.1 SH).1;have hlive:∀ j,j≠p->bj h' j->bj h j/\j≠k:=λj hj hl=>by
  rcases gD hl with ⟨_,_,g⟩|⟨_,_,_,_,g⟩
  ·rw[hoth j hj]at g
   let ⟨g1,g2⟩:=hide_get g av
   exact⟨eC g1,g2⟩
  ·rw[hoth j hj]at g
   let ⟨g1,g2⟩:=hide_get g av
   exact⟨iw g1,g2⟩
 refine⟨⟨λj o hj=>?_,λj j' x x' M N h3 h4 h5=>?_,λj hj=>?_,λj x hj=>?_,λj as' ty' hj=>?_,λj x hj hx=>?_⟩,hs⟩
 ·by_cases e1:j=p
  ·subst e1;rw[ho]at hj;cases hj;exact .inr ⟨b,0,[],gF _ _ _,by simp[TE],av,⟨Em _,E⟩,λi hi=>by omega⟩
  ·rw [hoth j e1]at hj
   by_cases Vx:o=.hid
   ·subst Vx;trivial
   ·let ⟨g1,g2⟩:=hide_get hj Vx
    by_cases hd:o=.dead
    ·subst hd
     let ⟨k1,k2,k3⟩:=hh.blk j _ g1
     refine⟨by rw[gA,DX e1];exact k1,k2,?_⟩;rw[G1,DX (λe2=>by rw[← e2,SH]at k3;cases k3)];exact k3
    ·refine dT hs hd (λb' as' ty' q1 q2=>?_) (hh.blk j _ g1)
     rw[G1,DX]
     ·exact q1
     ·intro e2
      subst e2
      let ⟨c',e',q3⟩:=q2
      have U7:bj h j:=by unfold bj ft;rw[bq,g1];cases o<;>first|rfl|exact(hd rfl).elim|exact(Vx rfl).elim
      exact g2 (hh.inj j k _ _ U7 T5 q3 W rfl)
 ·rw [gA]at h3 h4
  by_cases e1:j=p<;>by_cases e2:j'=p
  ·rw[e1,e2]
  ·rw[E5 e1]at h3;rw[DX e2]at h4;cases h3
   let ⟨g1,g2⟩:=hlive j' e2 N
   exact absurd (hh.inj j' k _ _ g1 T5 h4 W h5.symm) g2
  ·rw[DX e1]at h3;rw[E5 e2]at h4;cases h4
   let ⟨g1,g2⟩:=hlive j e1 M
   exact absurd (hh.inj j k _ _ g1 T5 h3 W h5) g2
  ·rw[DX e1]at h3;rw[DX e2]at h4;exact hh.inj j j' x x' (hlive j e1 M).1 (hlive j' e2 N).1 h3 h4 h5
 ·have e1:j≠p:=λe1=>by subst e1;omega
  rw[gA,DX e1];apply hh.dom;have:=hoth j e1;rw[GE hj]at this;have:=List.getElem?_eq_none_iff.1 this.symm;simpa using this
 ·rw[gA]at hj
  split at hj
  ·cases hj;simpa using TE
  ·simpa using hh.rng j x hj
 ·have U6:ν.z[j]? = some (.cells as' ty'):=hj
  rw[G1,DX λe2=>?_]
  ·exact hh.zl j as' ty' U6
  ·subst e2;exact mV (hh.zn k _ T5 W) _ _ U6
 ·rw[gA]at hx
  by_cases e1:j=p
  ·rw[E5 e1]at hx;cases hx;exact hh.zn k (b,c,e) T5 W
  ·rw[DX e1]at hx;exact hh.zn j x (hlive j e1 hj).1 hx
theorem HR.virt (hh:HR w0 ν nV nS h lh) {p:Nat} {esz:Nat} {f:bk} {ty:TypeId} (hp:ν p=none) (T8:p < h'.length) (ho:h'[p]? = some (.gl esz 0 f ty)) (hoth:∀ j,j ≠ p->h'[j]? = h[j]?) :
 HR w0 (y5 ν p none) nV nS h' lh/\ν.sub (y5 ν p none):=by
 have hs:=kN (x:=none) hp;have hlive:∀j,j≠p->bj h' j->bj h j:=λk W hl=>by unfold bj ft at *;rw[bq]at *;rw[hoth k W]at hl;exact hl
 refine⟨⟨λj o hj=>?_,λj j' x x' M N h3 h4 h5=>?_,λj hj=>?_,λj x hj=>?_,hh.zl,λj x hj hx=>?_⟩,hs⟩
 ·by_cases e1:j=p
  ·subst e1;rw[ho]at hj;cases hj;exact .inl ⟨gF _ _ _,rfl⟩
  ·rw [hoth j e1]at hj
   by_cases hd:o=.dead
   ·subst hd
    let ⟨k1,k2,k3⟩:=hh.blk j _ hj
    exact⟨by rw[gA,DX e1];exact k1,k2,k3⟩
   ·exact dT hs hd (λ_ _ _ At _=>At) (hh.blk j _ hj)
 ·rw [gA]at h3 h4
  by_cases e1:j=p
  ·rw[E5 e1]at h3;cases h3
  ·by_cases e2:j'=p
   ·rw[E5 e2]at h4;cases h4
   ·rw[DX e1]at h3;rw[DX e2]at h4;exact hh.inj j j' x x' (hlive j e1 M) (hlive j' e2 N) h3 h4 h5
 ·have e1:j≠p:=λe1=>by subst e1;omega
  rw[gA,DX e1];apply hh.dom;have:=hoth j e1;rw[GE hj]at this;exact List.getElem?_eq_none_iff.1 this.symm
 ·rw[gA]at hj
  split at hj
  ·cases hj
  ·exact hh.rng j x hj
 ·rw[gA]at hx
  by_cases e1:j=p
  ·rw[E5 e1]at hx;cases hx
  ·rw[DX e1]at hx;exact hh.zn j x (hlive j e1 hj) hx
theorem qj {pl:Option Nat} {o:A7} {K:Nat->List A7->BO α} (hh:HR w0 ν nV nS h lh) (hs:bR LP (gz pl h o K) Qe):∃ p h',ν p=none/\p < h'.length/\h'[p]? = some o/\(∀ j,j ≠ p->h'[j]? = h[j]?)/\(pl=none ∨ (pl=some p/\h'=h.set p o/\p < h.length))/\bR LP (K p h') Qe:=by
 unfold gz at hs;split at hs
 ·rw[b5,yw]at hs
  refine⟨_,_,hh.dom h.length (Em _),av,av,λk W=>?_,.inl rfl,hs⟩;rw[HO];split
  ·rfl
  ·rw[GE (by simp;omega),GE E]
 ·rename_i p
  rw[bq]at hs;split at hs
  ·rename_i hd;rw[jd]at hs;have Qw:=(List.getElem?_eq_some_iff.1 hd).1;exact⟨_,_,(hh.blk p _ hd).1,by simpa using Qw,by simp[Qw],λk W=>by simp[W.symm],.inr ⟨rfl,rfl,Qw⟩,hs⟩
  ·exact hs.elim
theorem ic1 {az us:List af} {off:Nat} (hl:off+us.length<=az.length):wr az off us=az.take off++us++az.drop (off+us.length):=by
 apply Hg;intro t;rw[xA _ _ _ _ hl,JE,HO];have M:(az.take off).length=off:=by simp;omega
 rw[M];by_cases N:t<off
 ·rw[DX E,E5 N,HW,E5 N]
 ·rw[DX N,HO]
  by_cases h3:t<off+us.length
  ·rw[E5 ⟨E,h3⟩,E5 E]
  ·rw[DX E,DX E,Hq];congr 1;omega
theorem hrs {z:List af} (n:Nat):(List.replicate n z).flatten.length=n*z.length:=by
 induction n with
 |zero=>simp|succ n ih=>rw[J8,LW,HP,ih,GW];omega
theorem sS {p j:Nat} {o:A7} (hl:bj (h.set p o) j):bj h j∨p=j:=by
 by_cases e:p=j
 ·exact .inr e
 ·left;unfold bj ft at *;rw[bq]at *;rw[G1,DX e]at hl;exact hl
theorem hmj {k j:Nat} (hl:bj (h.set k .hid) j):bj h j:=by
 rcases gD hl with ⟨_,_,g⟩|⟨_,_,_,_,g⟩
 ·exact eC (hide_get g av).1
 ·exact iw (hide_get g av).1
theorem BU {p k:Nat} {x y:Option (Nat×Nat×Nat)} (W:y5 ν p x k=some y):ν k=some y∨(p=k/\y=x):=by
 rw[gA]at W;split at W
 ·rename_i e;cases W;exact .inr ⟨e.symm,rfl⟩
 ·exact .inl W
theorem ze.put {p b c e:Nat} {o:A7} {ob:ar} {wn:List Nat} {pl plA:Option Nat} (T8:pl=some p) (hplA:plA=some b) (hh:h'=h.set p o) (hl:lh'=lh.set b ob):ze ν (y5 ν p (some (b,c,e))) wn pl plA h h' lh lh':=by
 subst T8 hplA hh hl;refine⟨av,λj hj _=>by rw[G1,DX (λe=>hj (by rw[e]))],λk x W=>?_,av,λk W=>?_,rfl⟩
 ·rcases BU W with M|⟨rfl,rfl⟩
  ·exact .inl M
  ·exact .inr ⟨rfl,λy hy=>by cases hy;exact .inl rfl⟩
 ·rcases sS W with M|rfl
  ·exact .inl M
  ·exact .inr rfl
theorem ze.hide {k:Nat} {wn:List Nat} {pl plA:Option Nat} (hm:ze ν ν' wn pl plA (h.set k .hid) h' lh lh'):ze ν ν' wn pl plA h h' lh lh' :=
 ⟨hm.len,hm.chg,hm.nw,by simpa using hm.hlen,λj hj=>by
   rcases hm.liv j hj with M|M
   ·exact .inl (hmj M)
   ·exact .inr M,hm.zz⟩
theorem uC {n b:Nat} (hb:b≠0) (h:n*b<=140737488355328):n<=9223372036854775807:=by have:n*1<=n*b:=Nat.mul_le_mul_left n (Nat.one_le_iff_ne_zero.2 hb);omega
theorem to (hh:HR w0 ν nV nS h lh) {pl plA:Option Nat} (hp:Lu nV nS pl plA) {ty:TypeId} {esz n m c':Nat} {f g:bk} {old new zero:List af} {K:V->List A7->BO α} {KA:af->List ar->Prop}
 (hz:zero.length=esz) (ho:old.length=n*esz) (hn:new.length=m*esz) (hc:n+m<=c') (Vz:n+m<=9223372036854775807)
 (M:∀i,i<n->nM esz (f i)=true/\bC w0 ν.z ν (f i) ((old.drop (i*esz)).take esz)) (N:∀i,i<m->nM esz (g i)=true/\bC w0 ν.z ν (g i) ((new.drop (i*esz)).take esz))
 (hs:bR LP (gz pl h (.gl esz (n+m) (bH n f g) ty) λp h=>K (.gs p (n+m)) h) Qe)
 (hK:∀v h' ν' a lh',(plA≠none->∀wn,ze ν ν' wn pl plA h h' lh lh')->ν.sub ν'->HR w0 ν' nV nS h' lh'->vr w0 ν'.z ν' v a->bR LP (K v h') Qe->KA a lh') :
 place plA lh (.cells (old++new++(List.replicate (c'-(n+m)) zero).flatten) ty) λb lh'=>KA (.slice (some (.l b 0)) (n+m) c') lh':=by
 refine C44 (o:=.gl esz (n+m) (bH n f g) ty) (c:=c') (e:=esz) hh hp av (λp b lh' hb TF=>.inr ⟨b,c',_,gF _ _ _,hb,?_,⟨hc,Vz⟩,λi hi=>?_⟩) hs (λp b h' lh' T2 TF hr SS=>hK _ _ _ _ _ (λhn wn=>?_) (kN TF) hr ?_ SS)
 ·rw[HP,HP,ho,hn,hrs,hz,← Hm,← Hm];congr 1;omega
 ·obtain⟨g1,g2⟩:=ak9 rfl ho hn M N i hi;exact⟨g1,lq (kN TF) _ _ g2⟩
 ·rcases T2 with ⟨_,e1⟩|⟨e1,e2,e3,e4,_⟩
  ·exact(hn e1).elim
  ·exact ze.put e1 e2 e3 e4
 ·simp only[vr];exact .inr ⟨b,c',esz,gF _ _ _,rfl,hc⟩
theorem AL {p:Nat} (hp:ν p=some none):vr w0 lh ν (.gs p 0) (.slice none 0 0):=by unfold vr;exact .inl ⟨hp,rfl,rfl⟩
theorem ry (f g:bk) (i:Nat):bH 0 f g i=g i:=by
 unfold bH;have:Nat.blt i 0=false:=by
  cases hb:Nat.blt i 0 with
  |false=>rfl|true=>have:=G2 hb;omega
 rw[this];simp
theorem iu6 (az:List af) (off:Nat):wr az off []=az:=rfl
theorem i20 {α:Type} {l:List α} {i:Nat} {x:α} (h:l[i]? = some x):l.set i x=l:=by obtain⟨hi,rfl⟩:=List.getElem?_eq_some_iff.1 h;exact List.set_getElem_self hi
theorem iy9 (hh:HR w0 ν nV nS h lh) {pl plA:Option Nat} (hp:Lu nV nS pl plA) {ty:TypeId} {esz bytes:Nat} {zero:List af} {s x:V} {a a':af} {K:V->List A7->BO α} {KA:af->List ar->Prop}
 (RZ:vr w0 ν.z ν s a) (nx12:vr w0 ν.z ν x a') (hz:zero.length=esz) (hs:bR LP (O9 pl h ty esz bytes s x K) Qe)
 (hK:∀v h' ν' a lh',(plA≠none->∀wn,(∀l,kv h s=some l->∀k,k∈l->k∈wn)->ze ν ν' wn pl plA h h' lh lh')->ν.sub ν'->HR w0 ν' nV nS h' lh'->vr w0 ν'.z ν' v a->bR LP (K v h') Qe->KA a lh'):tp w0 lh plA ty esz bytes zero KA a a':=by
 unfold O9 at hs;split at hs
 ·exact hs.elim
 ·rename_i m g At hsrc
  simp only[bR]at hs;obtain⟨rfl,hs⟩:=hs;obtain⟨At,c2,new,rfl,hnew,UJ,u7,Ri⟩:=agm hh nx12 hsrc;have hKp:∀ v h' ν' a lh',(plA≠none->∀ wn,ze ν ν' wn pl plA h h' lh lh')->ν.sub ν'->HR w0 ν' nV nS h' lh'->vr w0 ν'.z ν' v a->bR LP (K v h') Qe->KA a lh' :=
   λv h' ν' a lh' hc=>hK v h' ν' a lh' λT8 wn _=>hc T8 wn
  have hKh:∀ k v h' ν' a lh',(plA≠none->∀ wn,ze ν ν' wn pl plA (h.set k .hid) h' lh lh')->ν.sub ν'->HR w0 ν' nV nS h' lh'->vr w0 ν'.z ν' v a->bR LP (K v h') Qe->KA a lh' :=
   λk v h' ν' a lh' hc=>hKp v h' ν' a lh' λT8 wn=>(hc T8 wn).hide
  have yaa:plA≠none->pl≠none:=λhn=>by
   rcases hp with ⟨e1,e2⟩|⟨p,e1,e2⟩
   ·exact(hn e2).elim
   ·rw[e1];simp
  have hvirt:∀ {h0 h':List A7} {p:Nat} {o:A7} {wn:List Nat},plA≠none->(pl=none∨(pl=some p/\h'=h0.set p o/\p<h0.length))->ze ν (y5 ν p none) wn pl plA h0 h' lh lh:=by
   intro h0 h' p o wn hn hx;rcases hx with e1|⟨e1,e2,_⟩
   ·exact(yaa hn e1).elim
   ·subst e2
    refine⟨rfl,λ_ _ _=>rfl,λk x W=>?_,av,λk W=>?_,rfl⟩
    ·rcases BU W with M|⟨rfl,rfl⟩
     ·exact .inl M
     ·exact .inr ⟨e1,λy hy=>by cases hy⟩
    ·rcases sS W with M|rfl
     ·exact .inl M
     ·exact .inr e1
  have hmove:∀ {k p b c ez c2 e2:Nat} {h':List A7} {o:A7} {ob:ar} {wn:List Nat},plA≠none->ν k=some (some (b,c2,e2))->k∈wn->(pl=none∨(pl=some p/\h'=(h.set k .hid).set p o/\p<(h.set k .hid).length))->ze ν (y5 ν p (some (b,c,ez))) wn pl plA h h' lh (lh.set b ob):=by
   intro k p b c ez c2 e2 h' o ob wn hn W hw hx;rcases hx with e1|⟨e1,e3,_⟩
   ·exact(yaa hn e1).elim
   ·subst e3
    refine⟨av,λj _ hj=>by rw[G1,DX (hj k _ hw W)],λk' x SP=>?_,av,λk' SP=>?_,rfl⟩
    ·rcases BU SP with M|⟨rfl,rfl⟩
     ·exact .inl M
     ·exact .inr ⟨e1,λy hy=>by cases hy;exact .inr ⟨k,_,hw,W,rfl⟩⟩
    ·rcases sS SP with M|rfl
     ·exact .inl (hmj M)
     ·exact .inr e1
  split at hs
  ·-- nil
   simp only[bR,Eg,GV,Hu]at hs
   let ⟨⟨Rs,SH⟩,hs⟩:=hs
   simp only[vr]at RZ;subst RZ;have hb:bytes≠0:=λe=>by subst e;simp at SH
   refine⟨new,hnew,λRb=>?_,λQw=>⟨[],by simp[cellsOf],?_,.inr hb,λc' Sr=>?_⟩⟩
   ·have hm:m=0:=by omega
    subst hm
    let ⟨p,h',e1,e2,e3,e4,e6,e5⟩:=qj hh hs
    let ⟨r1,r2⟩:=hh.virt e1 e2 e3 e4
    exact hKp _ _ _ _ _ (λhn wn=>hvirt hn e6) r2 r1 (AL (gF _ _ _)) e5
   ·exact growslice_fits Qw (by simpa using Rs)
   ·have e0:bH 0 (λ_=>[]) g=g:=funext λi=>ry _ g i;have:=to (n:=0) (f:=λ_=>[]) (old:=[]) hh hp (K:=K) (KA:=KA) (ty:=ty) (c':=c') (g:=g) (m:=m) hz av UJ Sr (by rw[Gh];exact uC hb (by simpa using Rs)) (λi hi=>by omega) Ri (by rw[e0];simpa using hs) hKp;exact this
  ·-- a list
   rename_i k n;rw[bq]at hs;split at hs
   ·rename_i e n' f ty' W
    cases hc:(Nat.beq e esz&&Nat.beq ty ty') with
    |false=>rw[hc]at hs;exact hs.elim
    |true=>
      rw[hc]at hs;simp only[Eg]at hc;have:=FF hc.1;subst this;have:=FF hc.2;subst this;simp only[cond_true,bR,Eg,GV,Hu]at hs
      let ⟨⟨⟨X3,Rs⟩,SH⟩,hs⟩:=hs
      have hb:bytes≠0:=λe=>by subst e;simp at SH
      rw[jd]at hs;have T5:=iw W;have hname:kv h (.gs k n)=some [k]:=by simp only[kv];unfold bj at T5;rw[T5];rfl
      simp only[vr]at RZ;rcases hh.blk k _ W with ⟨M,N⟩|⟨b,c,az,M,N,h3,hn,h5⟩
      ·rcases RZ with ⟨_,h3,h4⟩|⟨b,c,e,h3,_⟩
       ·subst h3 h4
        have e0:bH 0 f g=g:=funext λi=>ry _ g i;refine⟨new,hnew,λRb=>?_,λQw=>⟨[],by simp[cellsOf],?_,.inr hb,λc' Sr=>?_⟩⟩
        ·have hm:m=0:=by omega
         subst hm
         let ⟨p,h',e1,e2,e3,e4,e6,e5⟩:=qj (hh.hide1 k) hs
         let ⟨r1,r2⟩:=(hh.hide1 k).virt e1 e2 e3 e4
         exact hKh k _ _ _ _ _ (λhn wn=>hvirt hn e6) r2 r1 (AL (gF _ _ _)) e5
        ·exact growslice_fits Qw (by simpa using Rs)
        ·exact to (n:=0) (f:=f) (old:=[]) (hh.hide1 k) hp (K:=K) (KA:=KA) (c':=c') (g:=g) (m:=m) hz av UJ Sr (by rw[Gh];exact uC hb (by simpa using Rs)) (λi hi=>by omega) Ri (by simpa using hs) (hKh k)
       ·rw[M]at h3;cases h3
      ·rcases RZ with ⟨h6,_⟩|⟨b',c',e',h6,rfl,hnc0⟩
       ·rw[M]at h6;cases h6
       ·rw [M]at h6
        obtain⟨rfl,rfl,rfl⟩:_=b'/\_=c'/\_=e':=by simpa using h6
        have UI:n*e<=c*e:=Ga e E;have Yi:(az.take (n*e)).length=n*e:=by simp;omega
        have hold:∀i,i<n->nM e (f i)=true/\bC w0 ν.z ν (f i) (((az.take (n*e)).drop (i*e)).take e):=λi hi=>by rw[ol hi];exact h5 i E
        refine⟨new,hnew,λRb=>⟨az,_,N,u7,?_,?_⟩,λQw=>⟨az.take (n*e),?_,?_,.inr hb,λc' Sr=>?_⟩⟩
        ·rw[Gh,UJ,← Hm,h3];exact Ga e Rb
        ·rw[Gh]
         let ⟨p,h',e1,e2,e3,e4,e6,e5⟩:=qj (hh.hide1 k) hs
         have hfit:n*e+new.length<=az.length:=by rw[UJ,← Hm,h3];exact Ga e Rb
         let ⟨r1,r2⟩:=hh.move (az:=wr az (n*e) new) e1 e2 M T5 e3 e4 ⟨_,_,N⟩ (by rw[qe];exact h3) ⟨Rb,uC hb Rs⟩ (ak9 (ic1 hfit) Yi UJ hold Ri)
         exact hK _ _ _ _ _ (λhn wn hw=>hmove hn M (hw _ hname k Hw) e6) r2 r1 (by simp only[vr];exact .inr ⟨b,c,e,gF _ _ _,rfl,Rb⟩) e5
        ·simp only[cellsOf,lds,N];rw[E5 E];simp
        ·exact growslice_fits Qw Rs
        ·exact to (hh.hide1 k) hp (K:=K) (KA:=KA) (c':=c') hz Yi UJ Sr (uC hb Rs) hold Ri hs (hKh k)
   ·exact hs.elim
  ·-- a block of a known size
   rename_i k off n c;split at hs
   ·rename_i m' f q' vH
    have nm12:∃ r,Fu h esz (.ss k off n c)=some (n,f,true)/\m'=n/\q'=r:=by
     refine⟨q',?_⟩;have:=vH;unfold Fu at this;simp only[bq]at this;split at this
     ·split at this
      ·cases hd:(List.all _ V.one) with
       |false=>rw[hd]at this;cases this
       |true=>
         rw[hd]at this;simp only[cond_true]at this;split at this
         ·cases this;exact⟨vH,rfl,rfl⟩
         ·cases this;exact⟨vH,rfl,rfl⟩
      ·cases this
     ·cases this
    obtain⟨_,hsrc2',rfl,_⟩:=nm12
    let ⟨qs,cs,old,e1,hold,Yi,nza14,helo⟩:=agm hh RZ hsrc2'
    have hvs':=RZ;simp only[vr]at hvs';obtain⟨b,c',e',hν,rfl⟩:=hvs';cases e1;split at hs
    ·rename_i VA hc0
     rw[bq]at hs;split at hs
     ·rename_i ty' W
      cases hc:(Nat.beq ty ty'&&Nat.beq off 0) with
      |false=>rw[hc]at hs;exact hs.elim
      |true=>
        rw[hc]at hs;simp only[Eg]at hc;have:=FF hc.1;subst this;have:=FF hc.2;subst this;simp only[cond_true,bR,Eg,GV,Hu]at hs
        let ⟨⟨Rs,SH⟩,hs⟩:=hs
        have hb:bytes≠0:=λe=>by subst e;simp at SH
        rw[jd]at hs;have T5:=eC W;have hname:kv h (.ss k 0 0 0)=some [k]:=by simp only[kv];unfold bj at T5;rw[T5];rfl
        let ⟨b2,c2',e2',az,M,N,h3⟩:=hh.blk k _ W
        rw[hν]at M;obtain⟨rfl,rfl,rfl⟩:_=b2/\_=c2'/\_=e2':=by simpa using M
        simp only[bC]at h3;subst h3;have e0:bH 0 f g=g:=funext λi=>ry _ g i;refine⟨new,hnew,λRb=>⟨[],_,N,u7,?_,?_⟩,λQw=>⟨old,hold,?_,.inr hb,λc' Sr=>?_⟩⟩
        ·have hm:m=0:=by omega
         subst hm;simp at UJ;subst UJ;simp
        ·have hm:m=0:=by omega
         subst hm;simp at UJ;subst UJ
         let ⟨p,h',e1,e2,e3,e4,e6,e5⟩:=qj (hh.hide1 k) hs
         let ⟨r1,r2⟩:=hh.renu (az:=[]) e1 e2 hν T5 e3 e4 ⟨_,_,N⟩ rfl
         exact hK _ _ _ _ _ (λhn wn hw=>hmove hn hν (hw _ hname k Hw) e6) r2 r1 (by unfold vr;exact .inr ⟨b,0,esz,gF _ _ _,rfl,Em _⟩) e5
        ·exact growslice_fits Qw (by simpa using Rs)
        ·exact to (n:=0) (f:=f) (hh.hide1 k) hp (K:=K) (KA:=KA) (c':=c') (g:=g) (m:=m) hz Yi UJ Sr (by rw[Gh];exact uC hb (by simpa using Rs)) (λi hi=>by omega) Ri (by rw[e0];simpa using hs) (hKh k)
     ·exact hs.elim
    ·have VP:bR LP (.ob (decide (c<m'+m/\(m'+m)*bytes<=140737488355328)&&!Nat.beq bytes 0) (gz pl h (.gl esz (m'+m) (bH m' f g) ty) λp h=>K (.gs p (m'+m)) h)) Qe->tp w0 lh plA ty esz bytes zero KA (.slice (some (.l b off)) m' c) (.slice At m c2):=λhs=>by
      simp only[bR,Eg,GV,Hu]at hs
      let ⟨⟨⟨Qw,Rs⟩,SH⟩,hs⟩:=hs
      have hb:bytes≠0:=λe=>by subst e;simp at SH
      refine⟨new,hnew,λRb=>by omega,λ_=>⟨old,hold,growslice_fits Qw Rs,.inr hb,λc' Sr=>?_⟩⟩;exact to hh hp (K:=K) (KA:=KA) (c':=c') hz Yi UJ Sr (uC hb Rs) helo Ri hs hKp
     split at hs
     ·simp only [bR]at hs
      cases hm:Nat.beq m 0 with
      |false=>exact VP (hs.2 hm)
      |true=>
        let ⟨UI,UM⟩:=hs.1 hm
        have iz21:m=0:=FF hm;have UI:=G2 UI;subst iz21;rw[Nat.zero_mul]at UJ;have X3:new=[]:=List.length_eq_zero_iff.1 UJ;subst X3;have VD:=hsrc2';unfold Fu at VD;simp only[bq]at VD;split at VD
        ·rename_i csV ty0 W
         let ⟨b2,c2',e2',az,M,N,h3⟩:=hh.blk k _ W
         rw[hν]at M;obtain⟨rfl,rfl,rfl⟩:_=b2/\_=c2'/\_=e2':=by simpa using M
         have im10:off+m'*esz<=az.length:=by
          have ho:=hold;simp only[cellsOf,lds,N]at ho;split at ho
          ·assumption
          ·cases ho
         refine⟨[],hnew,λ_=>⟨az,_,N,u7,by simpa using im10,?_⟩,λQw=>by omega⟩;rw[iu6,show lh.set b (.cells az ty0)=lh from i20 N];exact hK _ _ ν _ _ (λhn wn hw=>ze.refl ..) (Nu.sub_refl _) hh RZ UM
        ·cases VD
     ·exact VP hs
   ·exact hs.elim
  ·exact hs.elim
end
section
variable {w0:World} {ν ν':Nu} {nV nS Qo:Nat} {h h':List A7} {lh lh':List ar} {α:Type} {LP:fK} {Qe:α->Prop} {e:bZ} {sl:List af} {ctx:Bool} {QZ:FuncId->b6}
theorem afk (c:Bool):∀ {x y z:V} {a b:af},IB c x y=some z->(c=true->vr w0 lh ν x a)->(c=false->vr w0 lh ν y b)->vr w0 lh ν z (if c then a else b):=by
 have key:∀ (x:V),(∀ (y z:V) (a b:af),IB c x y=some z->(c=true->vr w0 lh ν x a)->(c=false->vr w0 lh ν y b)->vr w0 lh ν z (if c then a else b)):=by
  intro x
  refine V.rec (motive_1:=λx=>∀ (y z:V) (a b:af),IB c x y=some z->(c=true->vr w0 lh ν x a)->(c=false->vr w0 lh ν y b)->vr w0 lh ν z (if c then a else b))
   (motive_2:=λxs=>∀(ys zs:List V) (az bs:List af),Kr c xs ys=some zs->(c=true->bC w0 lh ν xs az)->(c=false->bC w0 lh ν ys bs)->bC w0 lh ν zs (if c then az else bs))
   ?_ ?_ ?_ ?_ ?_ ?_ ?_ ?_ ?_ ?_ ?_ ?_ ?_ ?_ ?_ ?_ ?_ ?_ ?_ ?_ ?_ ?_ x
  case refine_1=>
   intro k n y z a b hm M N;cases y<;>simp[IB]at hm<;>try cases hm
   split at hm
   ·rename_i he _;subst he;cases hm
    simp[vr]at *
    cases c
    ·rw[N rfl];rfl
    ·rw[M rfl];rfl
   ·cases hm
  case refine_2=>
   intro p y z a b hm M N;simp[IB]at hm;split at hm
   ·rename_i At hq
    cases hm;cases c
    ·have N:=N rfl;cases y<;>simp[oS]at hq<;>cases hq<;>(simp[vr]at N ⊢;subst N;rfl)
    ·have M:=M rfl;simp[vr]at M ⊢;subst M;rfl
   ·cases hm
  case refine_3=>
   intro p y z a b hm M N;simp[IB]at hm;split at hm
   ·rename_i At hq
    cases hm;cases c
    ·have N:=N rfl;cases y<;>simp[oS]at hq<;>cases hq<;>(simp[vr]at N ⊢;subst N;rfl)
    ·have M:=M rfl;simp[vr]at M ⊢;subst M;rfl
   ·cases hm
  case refine_4=>
   intro s y z a b hm M N;cases y<;>simp[IB]at hm<;>try cases hm
   simp[vr]at *
   cases c
   ·rw[N rfl];rfl
   ·rw[M rfl];rfl
  case refine_5=>
   intro cs ih y z a b hm M N;cases y<;>simp[IB]at hm<;>try cases hm
   split at hm
   ·rename_i zs hz
    cases hm;simp[vr]at *
    cases c
    ·obtain⟨az,rfl,g⟩:=N rfl;have:=ih _ _ [] az hz (λh=>by cases h) (λ_=>g);exact⟨az,rfl,by simpa using this⟩
    ·obtain⟨az,rfl,g⟩:=M rfl;have:=ih _ _ az [] hz (λ_=>g) (λh=>by cases h);exact⟨az,rfl,by simpa using this⟩
   ·cases hm
  case refine_21=>
   intro ys zs az bs hm M N;cases ys<;>simp[Kr]at hm<;>cases hm;simp[bC]at *
   cases c
   ·simpa using N rfl
   ·simpa using M rfl
  case refine_22=>
   intro x xs ihx ihxs ys zs az bs hm M N;cases ys with
   |nil=>simp[Kr]at hm
   |cons y ys=>
     simp[Kr]at hm;split at hm
     ·rename_i z hz
      split at hm
      ·rename_i zs' e₂
       cases hm;cases c
       ·have N:=N rfl;simp[bC]at N ⊢;obtain⟨b,bs,rfl,g1,g2⟩:=N;have i1:=ihx y z (.any) b hz (λh=>by cases h) (λ_=>g1);have i2:=ihxs ys zs' [] bs e₂ (λh=>by cases h) (λ_=>g2);exact⟨b,bs,rfl,by simpa using i1,by simpa using i2⟩
       ·have M:=M rfl;simp[bC]at M ⊢;obtain⟨b,bs,rfl,g1,g2⟩:=M;have i1:=ihx y z b (.any) hz (λ_=>g1) (λh=>by cases h);have i2:=ihxs ys zs' bs [] e₂ (λ_=>g2) (λh=>by cases h);exact⟨b,bs,rfl,by simpa using i1,by simpa using i2⟩
      ·cases hm
     ·cases hm
  all_goals (intros;rename_i hm _ _;simp[IB]at hm)
 intro x y z a b h0 M N;exact key x y z a b h0 M N
theorem R86:∀ {xs ys:List V} {az bs:List af} {b:Bool},EZ xs ys=some b->bC w0 lh ν xs az->bC w0 lh ν ys bs->cm az bs=some b
 |[],[],az,bs,b,hm,M,N=>by simp[bC]at M N;subst M N;simp[EZ,cm]at *;exact hm
 |[],y::ys,az,bs,b,hm,M,N=>by cases y<;>simp[EZ]at hm
 |x::xs,[],az,bs,b,hm,M,N=>by cases x<;>simp[EZ]at hm
 |x::xs,y::ys,az,bs,b,hm,M,N=>by
   cases x<;>cases y<;>simp[EZ]at hm<;>try cases hm
   split at hm
   ·rename_i he _
    subst he;split at hm
    ·rename_i r hr;cases hm;simp[bC,vr]at M N;obtain⟨_,az,rfl,rfl,M⟩:=M;obtain⟨_,bs,rfl,rfl,N⟩:=N;simp[cm,H2,R86 hr M N,GU]
    ·cases hm
   ·cases hm
theorem asz {isMax:Bool} {KA:af->Prop}:∀ {xs:List V} {x z:V} {az:List af} {a:af},KQ isMax x xs=some z->vr w0 lh ν x a->bC w0 lh ν xs az->(∀ r,vr w0 lh ν z r->KA r)->mm2 isMax a az KA
 |[],x,z,az,a,hm,M,N,hK=>by simp[bC]at N;subst N;cases x<;>(simp[KQ]at hm;cases hm;unfold mm2;exact hK a M)
 |y::xs,x,z,az,a,hm,M,N,hK=>by
   cases x<;>try (simp[KQ]at hm;done)
   cases y<;>simp[KQ]at hm<;>try cases hm
   split at hm
   ·rename_i he _;subst he;simp[bC,vr]at M N;obtain⟨_,az,rfl,rfl,N⟩:=N;subst M;unfold mm2;exact⟨rfl,asz hm (by simp[vr]) N hK⟩
   ·cases hm
theorem ny1 {op:BinOp} {k:IntKind} {x y:Int} {K:V->BO α} {KA:af->Prop} (hc:ctx=true) (hs:bR LP (Rq ctx op k x y K) Qe) (hK:∀ v a,vr w0 ν.z ν v a->bR LP (K v) Qe->KA a):tD op k x y KA:=by
 cases op<;>simp[Rq]at hs<;>simp[tD]
 case quo=>let ⟨M,N⟩:=gj hc hs;exact⟨M,hK _ _ (by simp[vr]) N⟩
 case rem=>let ⟨M,N⟩:=gj hc hs;exact⟨M,hK _ _ (by simp[vr]) N⟩
 case shl=>let ⟨M,N⟩:=gj hc hs;exact⟨M,hK _ _ (by simp[vr]) N⟩
 case shr=>let ⟨M,N⟩:=gj hc hs;exact⟨M,hK _ _ (by simp[vr]) N⟩
 all_goals first|exact hs.elim|exact hK _ _ (by simp[vr]) hs
theorem hsz {op:BinOp} {x y:V} {a b:af} {K:V->BO α} {KA:af->Prop} (hc:ctx=true) (M:vr w0 ν.z ν x a) (N:vr w0 ν.z ν y b) (hs:bR LP (C4 ctx op x y K) Qe) (hK:∀ v a,vr w0 ν.z ν v a->bR LP (K v) Qe->KA a):Qs op a b KA:=by
 unfold C4 at hs;split at hs
 ·simp [vr]at M N;subst M N
  split at hs
  ·rename_i he _;subst he;exact⟨rfl,ny1 hc hs hK⟩
  ·exact hs.elim
 ·simp[vr]at M N;subst M N
  simp[Qs];split at hs
  ·exact hK _ _ (by simp[vr]) hs
  ·exact hK _ _ (by simp[vr]) hs
  ·let ⟨g1,g2⟩:=gj hc hs;exact⟨g1,hK _ _ (by simp[vr]) g2⟩
  ·exact hs.elim
 ·exact hs.elim
theorem oW {v:V} {a:af} {b:Bool} (U:vr w0 lh ν v a) (hb:oS v=some b):a=.bool b:=by cases v<;>simp[oS]at hb<;>cases hb<;>(simp[vr]at U;exact U)
theorem hj1 {cs ds:List V} {off:Nat} {a:af} (U:vr w0 ν.z ν (.pd cs) a) (hd:sY off cs=some ds):∃p,a=.ptr (some p)/\vr w0 ν.z ν (.pd ds) (.ptr (some (p.add off))):=by simp only[vr]at U;obtain⟨p,az,rfl,M,N,h3⟩:=U;obtain⟨g1,rfl⟩:=wX hd;refine⟨p,rfl,?_⟩;simp only[vr];have:=R53 (i:=off) (m:=cs.length-off) (lh:=ν.z) N E (mS _);refine⟨_,_,rfl,by cases p<;>exact M,by rw[Jx];exact this,?_,List.all_eq_true.2 λx hx=>List.all_eq_true.1 h3.2 x (List.mem_of_mem_drop hx)⟩;have hl:=sN N;rw[J7 (by simp;omega)];exact gZ off h3.1
theorem j4 (y d:Nat) (K:Nat->Prop):bnd none y d K=K d:=rfl
theorem AA {xs:List V} {v:V} (hs:WV h xs v=some h'):∃ k o,h'=h.set k o/\bj h k:=by
 unfold WV at hs;split at hs
 ·rename_i k off
  rw[bq]at hs;split at hs
  ·rename_i cs ty W
   split at hs
   ·cases hs;exact⟨k,_,jd _ _ _,eC W⟩
   ·cases hs
  ·cases hs
 ·rename_i k i j
  rw[bq]at hs;split at hs
  ·rename_i e n f ty W
   cases hb:Nat.ble (j+b7 xs) e with
   |true=>rw[hb]at hs;cases hs;exact⟨k,_,jd _ _ _,iw W⟩|false=>rw[hb]at hs;cases hs
  ·cases hs
 ·cases hs
theorem x23 {xs:List V} {v:V} (hs:WV h xs v=some h'):h'.length=h.length:=by obtain⟨k,o,rfl,_⟩:=AA hs;simp
theorem id1 {xs:List V} {v:V} {j:Nat} (hs:WV h xs v=some h') (hj:bj h' j):bj h j:=by
 obtain⟨k,o,rfl,W⟩:=AA hs;rcases sS hj with M|rfl
 ·exact M
 ·exact W
theorem fh6:∀ (xs ys cs:List af) (o:Nat),wr cs o (xs++ys)=wr (wr cs o xs) (o+xs.length) ys
 |[],ys,cs,o=>by simp[wr]
 |x::xs,ys,cs,o=>by simp[Jy,wr,HC];rw[fh6 xs ys,show o+1+xs.length=o+(xs.length+1) by omega]
theorem hrv (n:Nat) (z:List af):(List.replicate (n+1) z).flatten=(List.replicate n z).flatten++z:=by rw[List.replicate_succ',List.flatten_append];simp
theorem EH {α:Type}:∀ (l z:List α),l.length=z.length->rF l 0 z=some z
 |[],[],_=>rfl|[],_::_,h=>by cases h
 |_::_,[],h=>by cases h
 |x::l,y::z,h=>by simp[rF];rw[EH l z (by simpa using h)]
theorem acU (hh:HR w0 ν nV nS h lh) {k e n' off:Nat} {f:bk} {ty:TypeId} {z:List V} {za:List af} (W:h[k]? = some (.gl e n' f ty)) {b c:Nat} (hν:ν k=some (some (b,c,e))) (hz:bC w0 ν.z ν z za) (ho:nM e z=true) :
 ∀n,off+n<=n'->∃cs,lh[b]? = some (.cells cs ty)/\off*e+n*e<=cs.length/\HR w0 ν nV nS (h.set k (.gl e n' (λi=>cond (Nat.ble off i&&Nat.blt i (off+n)) z (f i)) ty)) (lh.set b (.cells (wr cs (off*e) (List.replicate n za).flatten) ty)):=by
 have hb:=hh.blk k _ W;have u9:=ho;simp only[nM,Eg]at u9;have Xh:z.length=e:=by have:=FF u9.1;rwa [b5]at this
 have ei:za.length=e:=by rw[bV hz,Xh]
 rcases hb with ⟨M,_⟩|⟨b',c',az,M,N,h3,h4,h5⟩
 ·rw[hν]at M;cases M
 rw[hν]at M;obtain⟨rfl,rfl⟩:b=b'/\c=c':=by simpa using M
 intro n;induction n with
 |zero=>
   intro hn;refine⟨az,N,by rw[h3,Nat.zero_mul,I6];exact Ga e E,?_⟩;have e1:(λi=>cond (Nat.ble off i&&Nat.blt i (off+0)) z (f i))=f:=by
    funext i;have:(Nat.ble off i&&Nat.blt i (off+0))=false:=by
     cases h6:Nat.ble off i with
     |false=>rfl
     |true=>
       have h7:=G2 h6;cases hb:Nat.blt i (off+0) with
       |false=>rfl|true=>have:=G2 hb;omega
    rw[this];rfl
   rw[e1];have e2:h.set k (.gl e n' f ty)=h:=by
    apply Hg;intro j;rw[G1];split
    ·rename_i e;subst e;let ⟨q1,q2⟩:=List.getElem?_eq_some_iff.1 W;simp[q1,q2]
    ·rfl
   have e3:lh.set b (.cells (wr az (off*e) (List.replicate 0 za).flatten) ty)=lh:=by
    apply Hg;intro j;rw[G1];split
    ·rename_i e;subst e;let ⟨q1,q2⟩:=List.getElem?_eq_some_iff.1 N;simp[q1,q2,wr]
    ·rfl
   rw[e2,e3];exact hh
 |succ n ih=>
   intro hn
   let ⟨cs,g1,g2,g3⟩:=ih E
   have Wy:k<h.length:=(List.getElem?_eq_some_iff.1 W).1;have TE:b<lh.length:=(List.getElem?_eq_some_iff.1 N).1;have RX:WV (h.set k (.gl e n' (λi=>cond (Nat.ble off i&&Nat.blt i (off+n)) z (f i)) ty)) z (.pe k (off+n) 0)=some (h.set k (.gl e n' (λi=>cond (Nat.ble off i&&Nat.blt i (off+(n+1))) z (f i)) ty)):=by
    have cu:(cond (Nat.ble off (off+n)&&Nat.blt (off+n) (off+n)) z (f (off+n))).length=z.length:=by
     have hf:=(h5 (off+n) E).1;simp only[nM,Eg]at hf;have:=FF hf.1;rw[b5]at this;cases (Nat.ble off (off+n)&&Nat.blt (off+n) (off+n)) with
     |true=>rfl|false=>show(f (off+n)).length=_;rw[this,Xh]
    simp only[WV];rw[bq,G1,E5 rfl,E5 Wy];dsimp only
    have hw:=apK (cu.trans Xh) 0 z;rw[EH _ _ cu]at hw;unfold M8 at hw;cases hble:Nat.ble (0+b7 z) e with
    |false=>rw[hble]at hw;cases hw|true=>
    rw[hble]at hw;simp only[cond_true,Et]at hw ⊢;rw[jd,List.set_set];congr 3;funext i;unfold VX;rw[hw];cases hi:Nat.beq i (off+n) with
    |true=>have:=FF hi;subst this;have M:Nat.ble off (off+n)=true:=Hj E;have N:Nat.blt (off+n) (off+(n+1))=true:=Hj E;rw[M,N];rfl
    |false=>
      have SQ:i≠off+n:=λe=>by subst e;rw[Nat.beq_refl]at hi;cases hi
      have:Nat.blt i (off+(n+1))=Nat.blt i (off+n):=by
       cases hb:Nat.blt i (off+n) with
       |true=>have:=G2 hb;exact Hj E
       |false=>
         cases SL:Nat.blt i (off+(n+1)) with
         |false=>rfl
         |true=>have h7:=G2 SL;have:Nat.blt i (off+n)=true:=Hj E;rw[this]at hb;cases hb
      rw[this];rfl
   rw[N]at g1;cases g1
   let ⟨b2,o2,cs2,En,k2,c2,e2',e1,e2,e3,e4,e5,e6⟩:=asp g3 (v:=.pe k (off+n) 0) (a:=.ptr (some (.l b ((off+n)*e+0)))) (by simp only[vr];exact⟨b,c,e,hν,rfl⟩) hz u9.2 RX (λk1 i1 j1 he e3 n3 f3 ty3 h6=>by cases he;rw[G1,E5 rfl,E5 Wy]at h6;cases h6;omega)
   obtain⟨rfl,rfl⟩:b=b2/\(off+n)*e+0=o2:=by simpa using e1
   rw[G1,E5 rfl,E5 TE]at e2;cases e2;refine⟨az,N,by rw[qe]at e3;rw[GW];rw[Hm]at e3;omega,?_⟩;rw[hrv,fh6];have cu:(List.replicate n za).flatten.length=n*e:=by simp[ei]
   rw[cu];rw[List.set_set]at e4;rw[I6,Hm]at e4;exact e4
theorem B5 {cf:CF α} {md:Bool} {pl plA:Option Nat} {op:lN} {K:V->List A7->BO α} {KA:af->List ar->Prop} {wn:List Nat} (RH:gX w0 ν Qo e sl) (hh:HR w0 ν nV nS h lh) (hc:ctx=true) (SB:tR w0 QZ LP md cf)
 (hp:Lu nV nS pl plA) (UK:md=true->∃l,Lg h e pl op=some l/\∀k,k∈l->k∈wn) (hs:bR LP (Ct cf ctx pl op e h K) Qe)
 (hK:∀v h' ν' a lh',(md=true->ze ν ν' wn pl plA h h' lh lh')->(mf op=true->ν'=ν/\h'=h/\lh'=lh)->ν.sub ν'->HR w0 ν' nV nS h' lh'->vr w0 ν'.z ν' v a->bR LP (K v h') Qe->KA a lh'):dv w0 QZ sl lh plA KA op:=by
 have hK0:∀v a,vr w0 ν.z ν v a->bR LP (K v h) Qe->KA a lh:=λv a U hs=>hK v h ν a lh (λ_=>ze.refl _ _ _ _ _ _) (λ_=>⟨rfl,rfl,rfl⟩) (Nu.sub_refl ν) hh U hs
 have hplace:∀ {o:A7} {az:List af} {ty:TypeId} {KP:Nat->List A7->BO α} {F:Nat->af} {c ez:Nat},(md=true->∃ p,pl=some p)->mf op=false->o ≠ .dead->(∀ p b lh',lh'[b]? = some (.cells az ty)->ν p=none->E0 w0 (y5 ν p (some (b,c,ez))) nV nS lh' p o) ->
  bR LP (gz pl h o KP) Qe->(∀p b h' lh',ν p=none->HR w0 (y5 ν p (some (b,c,ez))) nV nS h' lh'->bR LP (KP p h') Qe->∃v,vr w0 ν.z (y5 ν p (some (b,c,ez))) v (F b)/\bR LP (K v h') Qe)->place plA lh (.cells az ty) λb lh'=>KA (F b) lh':=by
  intro o az ty KP F c ez T8 RX Ye hb hs W
  refine C44 hh hp Ye hb hs λp b h' lh' T2 TF hr SS=>?_
  let ⟨v,U,np14⟩:=W p b h' lh' TF hr SS
  refine hK v h' _ _ lh' (λhm=>?_) (λe=>by rw[RX]at e;cases e) (kN TF) hr U np14
  let ⟨p',hp''⟩:=T8 hm
  rcases T2 with ⟨g,_⟩|⟨e1,e2,e3,e4,_⟩
  ·rw[hp'']at g;cases g
  ·exact ze.put e1 e2 e3 e4
 have hplN:∀ {z:List Nat},Lg h e pl op=some z->(match pl with|some p=>some [p]|none=>none:Option (List Nat))=some z->∃ p,pl=some p:=by
  intro z _ hz
  cases pl with
  |none=>cases hz
  |some p=>exact⟨p,rfl⟩
 cases op<;>simp only[Ct]at hs<;>simp only[dv]
 case mov x=>
  let ⟨u,M,N⟩:=bQ RH hc hs
  exact hK0 _ _ M N
 case pick c a b=>
  let ⟨u,M,N⟩:=bQ RH hc hs
  split at N
  ·simp only[vr]at M;rw[M]
   let ⟨v,g1,g2⟩:=bQ RH hc N
   exact⟨λ_=>hK0 _ _ g1 g2,λe=>by cases e⟩
  ·simp only[vr]at M;rw[M]
   let ⟨v,g1,g2⟩:=bQ RH hc N
   exact⟨(λe=>by cases e),λ_=>hK0 _ _ g1 g2⟩
  ·rename_i c
   simp only[vr]at M;rw[M]
   subst hc
   have ha:∀ {x:V} {KK:V->BO α} {a:gq} {cc:Bool},bR LP (ju (true&&cc) (dM e a) KK) Qe->∃ u,(cc=true->vr w0 ν.z ν u (arg sl a))/\bR LP (KK u) Qe:=by
    intro x KK a cc hs
    have U:=RH.arg a
    unfold ju at hs
    split at hs
    ·rename_i b u hb
     rw[hb]at U
     simp only[bR]at hs
     simp only[vr]at U
     exact⟨u,λe=>U.1 (by subst e;simpa using hs.1),hs.2⟩
    ·exact⟨_,λ_=>U,hs⟩
   let ⟨x,g1,h3⟩:=ha (x:=.any) N
   let ⟨y,g2,h4⟩:=ha (x:=.any) h3
   split at h4
   ·rename_i z hz
    have hm:=afk (a:=arg sl a) (b:=arg sl b) c hz g1 (λe=>g2 (by simp[e]))
    refine⟨λe=>?_,λe=>?_⟩
    ·subst e;exact hK0 _ _ (by simpa using hm) h4
    ·subst e;exact hK0 _ _ (by simpa using hm) h4
   ·simp only[bR]at h4
    exact⟨λe=>hK0 _ _ (g1 e) (h4.1 e),λe=>hK0 _ _ (g2 (by simp[e])) (h4.2 e)⟩
  ·simp only[bR]at N
   exact absurd (N.1 hc) Ej
  ·exact N.elim
 case new ty z=>
  refine hplace (o:=.cells (z.map HV) ty) (c:=0) (ez:=0) (F:=λb=>.ptr (some (.l b 0))) (λhm=>?_) rfl av (λp b lh' hb TF=>⟨b,0,0,z,gF _ _ _,hb,qh z⟩) hs (λp b h' lh' TF hr SS=>⟨_,?_,SS⟩)
  ·let ⟨l,g,_⟩:=UK hm;exact hplN g g
  ·simp only[vr];exact⟨b,0,0,gF _ _ _,rfl⟩
 case box ty x=>
  let ⟨u,M,N⟩:=bQ RH hc hs
  cases hf:u.flat with
  |false=>rw[hf]at N;exact N.elim
  |true=>
    rw[hf]at N
    simp only[cond_true]at N
    let ⟨g1,g2⟩:=xy M hf
    refine⟨g1,hplace (o:=.cells u.cells ty) (c:=0) (ez:=0) (F:=λb=>.ptr (some (.l b 0))) (λhm=>?_) rfl av (λp b lh' hb TF=>⟨b,0,0,_,gF _ _ _,hb,lq (kN TF) _ _ g2⟩) N (λp b h' lh' TF hr SS=>⟨_,?_,SS⟩)⟩
    ·let ⟨l,g,_⟩:=UK hm;exact hplN g g
    ·simp only[vr];exact⟨b,0,0,gF _ _ _,rfl⟩
 case agg z ps=>
  exact uH RH hc (qh z) hs λcs az g1 g2=>hK0 _ _ (by simp only[vr];exact⟨az,rfl,g1⟩) g2
 case bsl ty n z ps=>
  refine uH RH hc (qh z) hs λcs az g1 g2=>?_
  refine hplace (o:=.cells cs ty) (c:=0) (ez:=0) (F:=λb=>.slice (some (.l b 0)) n n) (λhm=>?_) rfl av (λp b lh' hb TF=>⟨b,0,0,az,gF _ _ _,hb,lq (kN TF) _ _ g1⟩) g2 (λp b h' lh' TF hr SS=>⟨_,?_,SS⟩)
  ·let ⟨l,g,_⟩:=UK hm;exact hplN g g
  ·simp only[vr];exact⟨b,0,0,gF _ _ _,rfl⟩
 case ld a=>
  let ⟨u,M,N⟩:=bQ RH hc hs
  let ⟨VC,h3⟩:=wH hc N
  split at h3
  ·rename_i v U
   let ⟨p,x,g1,g2,g3⟩:=FJ hh M U VC
   rw[g1]
   exact⟨x,g2,hK0 _ _ g3 h3⟩
  ·exact h3.elim
 case lds n a=>
  let ⟨u,M,N⟩:=bQ RH hc hs
  let ⟨VC,h3⟩:=wH hc N
  split at h3
  ·rename_i v U
   let ⟨p,x,g1,g2,g3⟩:=ahX hh M U VC
   rw[g1]
   exact⟨x,g2,hK0 _ _ (by simp only[vr];exact⟨x,rfl,g3⟩) h3⟩
  ·exact h3.elim
 case st n a x=>
  let ⟨u,M,N,Yf⟩:=D1 hc (RH.arg a) hs
  let ⟨v,h3,h4⟩:=bQ RH hc N
  let ⟨VC,h5⟩:=wH hc h4
  cases hf:(v.flat&&Nat.beq (b7 v.cells) n) with
  |false=>rw[hf]at h5;exact h5.elim
  |true=>
    rw[hf]at h5
    simp only[cond_true]at h5
    simp only[Eg]at hf
    let ⟨g1,g2⟩:=xy h3 hf.1
    have g3:=FF hf.2
    rw[b5]at g3
    split at h5
    ·rename_i h' RX
     let ⟨b,off,cs,ty,k,c,ez,e1,e2,e3,e4,e5,e6⟩:=asp hh M g2 (hpl hf.1) RX VC
     rw[e1]
     have hl:=bV g2
     refine⟨cs,ty,e2,g1,E,E,hK _ _ ν _ _ (λhm=>?_) (λe=>by cases e) (Nu.sub_refl ν) e4 (by simp only[vr,bC];exact⟨[],rfl,rfl⟩) h5⟩
     let ⟨l,q1,q2⟩:=UK hm
     simp only[Lg]at q1
     have:=Yf _ _ q1
     subst this
     rw[e5]at q1;cases q1
     refine⟨av,λj _ hj=>by rw[G1,DX (hj k _ (q2 k Hw) e6)],λ_ _ h=>.inl h,?_,?_,rfl⟩
     ·exact x23 RX
     ·exact λj hj=>.inl (id1 RX hj)
    ·exact h5.elim
 case nz x=>
  let ⟨u,M,N⟩:=bQ RH hc hs
  split at N
  ·simp only[vr]at M;let ⟨b,c,ez,g1,g2⟩:=M;rw[g2];exact hK0 _ _ (by simp only[vr];exact⟨b,c,ez,g1,rfl⟩) N
  ·simp only[vr]at M;let ⟨b,c,ez,g1,g2⟩:=M;rw[g2];exact hK0 _ _ (by simp only[vr];exact⟨b,c,ez,g1,rfl⟩) N
  ·simp only[vr]at M;let ⟨p,az,g1,g2,g3,g4⟩:=M;rw[g1];exact hK0 _ _ (by simp only[vr];exact⟨p,az,rfl,g2,g3,g4⟩) N
  ·simp only[vr]at M;let ⟨us,vs,g1,g2,g3⟩:=M;rw[g1];exact hK0 _ _ (by simp only[vr];exact⟨us,vs,rfl,g2,g3⟩) N
  ·exact N.elim
 case bin op x y=>
  let ⟨u,M,N⟩:=bQ RH hc hs
  let ⟨v,h3,h4⟩:=bQ RH hc N
  exact hsz hc M h3 h4 λv a U hs=>hK0 v a U hs
 case eqa neg n x y=>
  let ⟨u,M,N⟩:=bQ RH hc hs
  let ⟨v,h3,h4⟩:=bQ RH hc N
  split at h4
  ·rename_i xs ys
   simp only[vr]at M h3
   let ⟨az,g1,g2⟩:=M
   let ⟨bs,g3,g4⟩:=h3
   rw[g1,g3]
   split at h4
   ·rename_i b hb
    cases hn:Nat.beq (b7 xs) n with
    |false=>rw[hn]at h4;exact h4.elim
    |true=>
      rw[hn]at h4
      have:=FF hn
      rw[b5]at this
      exact⟨by rw[bV g2];exact this,b,R86 hb g2 g4,hK0 _ _ (by simp only[vr]) h4⟩
   ·exact h4.elim
  ·exact h4.elim
 case eqb neg x y=>
  let ⟨u,M,N⟩:=bQ RH hc hs
  let ⟨v,h3,h4⟩:=bQ RH hc N
  split at h4
  ·rename_i a b ha hb
   rw[oW M ha,oW h3 hb]
   exact hK0 _ _ (by simp only[vr]) h4
  ·exact h4.elim
 case un op x=>
  let ⟨u,M,N⟩:=bQ RH hc hs
  split at N
  ·simp only[vr]at M;rw[M];exact hK0 _ _ (by simp only[vr]) N
  ·simp only[vr]at M;rw[M];exact hK0 _ _ (by simp only[vr]) N
  ·simp only[vr]at M;rw[M];exact hK0 _ _ (by simp only[vr]) N
  ·exact N.elim
 case conv k x=>
  let ⟨u,M,N⟩:=bQ RH hc hs
  split at N
  ·simp only[vr]at M;rw[M];exact hK0 _ _ (by simp only[vr]) N
  ·exact N.elim
 case mkf f xs ys=>
  split at hs
  ·let ⟨us,g1,g2⟩:=mg RH hc hs
   let ⟨vs,g3,g4⟩:=mg RH hc g2
   exact hK0 _ _ (by simp only[vr];exact⟨_,_,rfl,g1,g3⟩) g4
  ·exact hs.elim
 case fa off x=>
  let ⟨u,M,N⟩:=bQ RH hc hs
  split at N
  ·simp only[vr]at M;let ⟨b,c,ez,g1,g2⟩:=M;rw[g2];exact hK0 _ _ (by simp only[vr];exact⟨b,c,ez,g1,rfl⟩) N
  ·simp only[vr]at M;let ⟨b,c,ez,g1,g2⟩:=M;rw[g2];exact hK0 _ _ (by simp only[vr];exact⟨b,c,ez,g1,by simp[jp.add,Ik]⟩) N
  ·split at N
   ·rename_i ds hd
    let ⟨p,g1,g2⟩:=hj1 M hd
    rw[g1];exact hK0 _ _ g2 N
   ·exact N.elim
  ·exact N.elim
 case fld off n x=>
  let ⟨u,M,N⟩:=bQ RH hc hs
  split at N
  ·simp only [vr]at M;let ⟨az,g1,g2⟩:=M;rw[g1]
   split at N
   ·rename_i n
    split at N
    ·rename_i ds hd
     obtain⟨q1,rfl⟩:=tk hd
     exact hK0 _ _ (by simp only[vr];exact⟨_,rfl,jh n (gZ off g2)⟩) N
    ·exact N.elim
   ·split at N
    ·rename_i v U
     rw[bq]at U
     let ⟨a,q1,q2⟩:=ou g2 U
     exact⟨a,q1,hK0 _ _ q2 N⟩
    ·exact N.elim
  ·exact N.elim
 case iaA n esz x ix=>
  let ⟨u,M,N⟩:=bQ RH hc hs
  let ⟨v,h3,h4⟩:=bQ RH hc N
  split at h4
  ·simp only[vr]at M h3;let ⟨b,c,ez,g1,g2⟩:=M;rw[g2,h3]
   let ⟨⟨q1,q2⟩,q3⟩:=gj hc h4
   exact⟨q1,q2,hK0 _ _ (by simp only[vr];exact⟨b,c,ez,g1,rfl⟩) q3⟩
  ·simp only[vr]at M h3;let ⟨b,c,ez,g1,g2⟩:=M;rw[g2,h3]
   let ⟨⟨q1,q2⟩,q3⟩:=gj hc h4
   exact⟨q1,q2,hK0 _ _ (by simp only[vr];exact⟨b,c,ez,g1,by simp[jp.add,Ik]⟩) q3⟩
  ·simp only [vr]at h3
   split at h4
   ·rename_i ds hd
    let ⟨p,g1,g2⟩:=hj1 M hd
    rw[g1,h3]
    let ⟨⟨q1,q2⟩,q3⟩:=gj hc h4
    exact⟨q1,q2,hK0 _ _ g2 q3⟩
   ·exact h4.elim
  ·exact h4.elim
 case iaS esz x ix=>
  let ⟨u,M,N⟩:=bQ RH hc hs
  let ⟨v,h3,h4⟩:=bQ RH hc N
  split at h4
  ·rename_i n f _ i
   simp only[vr]at M h3
   let ⟨p,c,ez,g1,g2,g3,g4,g5⟩:=M
   rw[g1,h3]
   cases hn:Nat.beq (b7 (f i.toNat)) esz with
   |false=>rw[hn]at h4;exact h4.elim
   |true=>
     rw[hn]at h4
     have hl:=FF hn
     rw[b5]at hl
     let ⟨⟨q1,q2⟩,q3⟩:=gj hc h4
     let ⟨At,az,k1,k2,k3⟩:=g5 i.toNat E
     subst k1
     have YX:ez=esz:=by have:=sN k2;have:=bV k3.1;omega
     subst YX
     refine⟨q1,q2,At,rfl,hK0 _ _ ?_ q3⟩
     simp only[vr]
     exact⟨_,az,rfl,is6 k2,by rw[hl];exact k2,k3⟩
  ·simp only[vr]at M h3;let ⟨b,c,ez,g1,g2⟩:=M;rw[g2,h3]
   let ⟨⟨q1,q2⟩,q3⟩:=gj hc h4
   exact⟨q1,q2,_,rfl,hK0 _ _ (by simp only[vr];exact⟨b,c,ez,g1,rfl⟩) q3⟩
  ·rename_i k n _ i
   rw[bq]at h4
   split at h4
   ·rename_i ez n' f ty W
    cases hn:Nat.beq ez esz with
    |false=>rw[hn]at h4;exact h4.elim
    |true=>
      rw[hn]at h4
      have hl:=FF hn
      subst hl
      let ⟨⟨q1,q2,q3⟩,q4⟩:=gj hc h4
      simp only[vr]at M h3
      rw[h3]
      rcases M with ⟨g1,g2,g3⟩|⟨b,c,e',g1,g2,_⟩
      ·omega
      ·rw [g2]
       refine⟨q1,q2,_,rfl,hK0 _ _ ?_ q4⟩
       simp only[vr]
       rcases hh.blk k _ W with ⟨k1,_⟩|⟨b2,c2,az,k1,_⟩
       ·rw[g1]at k1;cases k1
       ·rw[g1]at k1
        obtain⟨rfl,rfl,rfl⟩:b=_/\c=_/\e'=_:=by simpa using k1
        exact⟨b,c,e',g1,by simp[jp.add]⟩
   ·exact h4.elim
  ·rename_i k off n _ i
   rw[bq]at h4
   split at h4
   ·rename_i ez n' f ty W
    cases hn:Nat.beq ez esz with
    |false=>rw[hn]at h4;exact h4.elim
    |true=>
      rw[hn]at h4
      have hl:=FF hn
      subst hl
      let ⟨⟨q1,q2,q3⟩,q4⟩:=gj hc h4
      simp only[vr]at M h3
      rw[h3]
      rcases M with ⟨g1,g2,g3⟩|⟨b,c,e',o,g1,g2,_,g4⟩
      ·omega
      ·rw [g2,g4 E]
       refine⟨q1,q2,_,rfl,hK0 _ _ ?_ q4⟩
       simp only[vr]
       rcases hh.blk k _ W with ⟨k1,_⟩|⟨b2,c2,az,k1,_⟩
       ·rw[g1]at k1;cases k1
       ·rw[g1]at k1
        obtain⟨rfl,rfl,rfl⟩:b=_/\c=_/\e'=_:=by simpa using k1
        exact⟨b,c,e',g1,by simp[jp.add,Hm]⟩
   ·exact h4.elim
  ·let ⟨⟨q1,q2⟩,_⟩:=gj hc h4
   omega
  ·exact h4.elim
 case ixA n esz sz x ix=>
  let ⟨u,M,N⟩:=bQ RH hc hs
  let ⟨v,h3,h4⟩:=bQ RH hc N
  split at h4
  ·simp only [vr]at M h3;let ⟨az,g1,g2⟩:=M;rw[g1,h3]
   split at h4
   ·rename_i sz
    split at h4
    ·rename_i ds hd
     let ⟨⟨q1,q2⟩,q3⟩:=gj hc h4
     obtain⟨_,rfl⟩:=tk hd
     exact⟨q1,q2,hK0 _ _ (by simp only[vr];exact⟨_,rfl,jh sz (gZ _ g2)⟩) q3⟩
    ·exact h4.elim
   ·split at h4
    ·rename_i w hw
     rw[bq]at hw
     let ⟨⟨q1,q2⟩,q3⟩:=gj hc h4
     let ⟨a,k1,k2⟩:=ou g2 hw
     exact⟨q1,q2,a,k1,hK0 _ _ k2 q3⟩
    ·exact h4.elim
  ·exact h4.elim
 case ixS x ix=>
  let ⟨u,M,N⟩:=bQ RH hc hs
  let ⟨v,h3,h4⟩:=bQ RH hc N
  split at h4
  ·simp only[vr]at M h3;rw[M,h3]
   let ⟨⟨q1,q2⟩,q3⟩:=gj hc h4
   exact⟨q1,q2,hK0 _ _ (by simp only[vr]) q3⟩
  ·exact h4.elim
 case len x=>
  let ⟨u,M,N⟩:=bQ RH hc hs
  split at N
  ·simp only[vr]at M;let ⟨p,c,ez,g1,_,g3,_⟩:=M;rw[g1];exact hK0 _ _ (by simp only[vr]) (N λ_=>g3)
  ·simp only[vr]at M;let ⟨p,c,ez,g1,g2⟩:=M;rw[g2];exact hK0 _ _ (by simp only[vr]) N
  ·simp only[vr]at M
   rcases M with ⟨g1,g2,g3⟩|⟨b,c,e',g1,g2,_⟩
   ·rw[g3];subst g2;exact hK0 _ _ (by simp only[vr]) N
   ·rw[g2];exact hK0 _ _ (by simp only[vr]) N
  ·simp only[vr]at M;rw[M];exact hK0 _ _ (by simp only[vr];rfl) N
  ·simp only[vr]at M
   rcases M with ⟨g1,g2,g3,g4⟩|⟨b,c,e',o,g1,g2,_⟩
   ·rw[g4];subst g2;exact hK0 _ _ (by simp only[vr]) N
   ·rw[g2];exact hK0 _ _ (by simp only[vr]) N
  ·exact N.elim
 case lenT x=>
  let ⟨u,M,N⟩:=bQ RH hc hs
  split at N
  ·simp only[vr]at M;rw[M];exact hK0 _ _ (by simp only[vr]) N
  ·exact N.elim
 case lenA n=>exact hK0 _ _ (by simp only[vr]) hs
 case mm b x xs=>
  let ⟨u,M,N⟩:=bQ RH hc hs
  let ⟨us,h3,h4⟩:=mg RH hc N
  split at h4
  ·rename_i v U
   exact asz U M h3 λr hr=>hK0 _ _ hr h4
  ·exact h4.elim
 case ext x i=>
  let ⟨u,M,N⟩:=bQ RH hc hs
  split at N
  ·simp only [vr]at M;let ⟨az,g1,g2⟩:=M;rw[g1]
   split at N
   ·rename_i v U
    rw[bq]at U
    let ⟨a,q1,q2⟩:=ou g2 U
    exact⟨a,q1,hK0 _ _ q2 N⟩
   ·exact N.elim
  ·exact N.elim
 case slS esz x lo hi mx=>
  let ⟨u,M,N⟩:=bQ RH hc hs
  let ⟨lo',l1,h3⟩:=l7 RH hc N
  let ⟨Rk,l2,h4⟩:=l7 RH hc h3
  let ⟨mx',l3,h5⟩:=l7 RH hc h4
  split at h5
  ·rename_i n f
   split at h5
   ·simp only [Zm]at l3
    rw[l3]
    simp only[vr]at M
    let ⟨p,c,ez,g1,g2,g3,g4,g5⟩:=M
    rw[g1]
    cases hz:Nat.beq (b7 (f 0)) esz with
    |false=>rw[hz]at h5;exact h5.elim
    |true=>
      rw[hz]at h5
      simp only[cond_true]at h5
      have hz:=FF hz
      rw[b5]at hz
      dsimp only
      rw[j4]
      refine uz (x:=Rk) (y:=n) g2 (eM hc l2 h5 λb SU SL h6=>?_)
      have WW:b<=n:=by
       by_cases e1:Rk=none
       ·have:=SU e1;omega
       ·exact SL e1
      refine eM hc l1 h6 λa Vv Wu h7=>hK0 _ _ ?_ h7
      have Sq:a<=b:=by
       by_cases e1:lo'=none
       ·have:=Vv e1;omega
       ·exact Wu e1
      simp only[vr]
      refine⟨_,c-a,esz,rfl,E,E,?_,λi hi=>?_⟩
      ·split
       ·exact g4
       ·cases p with
        |none=>trivial
        |some At=>cases At with
          |l k o=>
            let ⟨cs,ty,q1,q2⟩:=g4
            refine⟨cs,ty,q1,?_⟩
            by_cases YP:a=0
            ·subst YP;simpa using q2
            ·let ⟨q0,as0,j1,j2,j3⟩:=g5 0 E
             have YX:ez=esz:=by have:=sN j2;have:=bV j3.1;omega
             let ⟨q3,as3,m1,m2,_⟩:=g5 (a-1) E
             cases m1
             simp only[jp.add,lds,q1]at m2
             split at m2
             ·rename_i Rb
              have h3:a*ez=(a-1)*ez+ez:=by rw[← GW];congr 1;omega
              show o+a*esz<=cs.length
              rw[← YX];omega
             ·cases m2
          |g ad=>trivial
      ·let ⟨At,az,k1,k2,k3⟩:=g5 (a+i) E
       let ⟨q0,as0,j1,j2,j3⟩:=g5 0 E
       have YX:ez=esz:=by have:=sN j2;have:=bV j3.1;omega
       subst YX
       refine⟨At.add (a*ez),az,?_,?_,k3⟩
       ·rw[DX E,k1];rfl
       ·rw[ho2,← Hm];exact k2
   ·exact h5.elim
  ·rename_i k n
   split at h5
   ·simp only [Zm]at l1 l3
    rw[l1,l3]
    simp only[vr]at M
    rcases M with ⟨g1,g2,g3⟩|⟨b,c,e',g1,g2,g3⟩
    ·rw [g3]
     subst g2
     dsimp only
     rw[j4]
     refine eM hc l2 h5 λb SU SL h6=>?_
     have hb:b=0:=by
      by_cases e1:Rk=none
      ·exact SU e1
      ·have:=SL e1;omega
     subst hb
     rw[j4]
     exact hK0 _ _ (AL g1) h6
    ·rw [g2]
     dsimp only
     rw[j4]
     refine uz (x:=Rk) (y:=n) g3 (eM hc l2 h5 λb' SU SL h6=>?_)
     have WW:b'<=n:=by
      by_cases e1:Rk=none
      ·have:=SU e1;omega
      ·exact SL e1
     rw[j4]
     refine hK0 _ _ ?_ h6
     simp only[vr]
     refine .inr ⟨b,c,e',g1,?_,E⟩
     simp[jp.add]
   ·rename_i lo2
    rw[bq]at h5
    split at h5
    ·rename_i e2 T Q En W
     cases hn:Nat.beq e2 esz with
     |false=>rw[hn]at h5;exact h5.elim
     |true=>
       rw[hn]at h5
       simp only[cond_true]at h5
       have:=FF hn
       subst this
       simp only[Zm]at l3
       rw[l3]
       simp only[vr]at M
       rcases M with ⟨g1,g2,g3⟩|⟨b,c,e',g1,g2,g3⟩
       ·rw [g3]
        subst g2
        dsimp only
        rw[j4]
        refine eM hc l2 h5 λb SU SL h6=>?_
        have hb:b=0:=by
         by_cases e1:Rk=none
         ·exact SU e1
         ·have:=SL e1;omega
        subst hb
        refine eM hc l1 h6 λa Vv Wu h7=>hK0 _ _ ?_ h7
        have ha:a=0:=by have:=Wu av;omega
        subst ha
        simp only[vr]
        exact .inl ⟨g1,trivial,trivial,av⟩
       ·rw [g2]
        dsimp only
        rw[j4]
        refine uz (x:=Rk) (y:=n) g3 (eM hc l2 h5 λb' SU SL h6=>?_)
        have WW:b'<=n:=by
         by_cases e1:Rk=none
         ·have:=SU e1;omega
         ·exact SL e1
        refine eM hc l1 h6 λa Vv Wu h7=>hK0 _ _ ?_ h7
        have Sq:a<=b':=Wu av
        have he:e'=e2:=by
         rcases hh.blk k _ W with ⟨k1,_⟩|⟨b2,c2,az,k1,_⟩
         ·rw[g1]at k1;cases k1
         ·rw[g1]at k1;simp at k1;exact k1.2.2
        subst he
        simp only[vr]
        by_cases hm:c=a
        ·refine .inr ⟨b,c,e',0,g1,by rw[E5 hm],⟨E,GG _⟩,λh0=>by omega⟩
        ·refine .inr ⟨b,c,e',a*e',g1,by rw[DX hm];simp[jp.add],⟨E,Ga _ E⟩,λ_=>rfl⟩
    ·exact h5.elim
   ·exact h5.elim
  ·rename_i k o n c
   simp only[vr]at M
   let ⟨b,c',e',g1,g2⟩:=M
   rw[g2]
   refine eM hc l3 h5 λm _ _ h6=>eM hc l2 h6 λb' _ _ h7=>eM hc l1 h7 λa _ _ h8=>hK0 _ _ ?_ h8
   simp only[vr]
   refine⟨b,c',e',g1,?_⟩
   unfold VI
   by_cases hm:m=a
   ·subst hm;simp
   ·rw [DX hm]
    have:Nat.beq m a=false:=by
     cases hb:Nat.beq m a with
     |false=>rfl
     |true=>exact(hm (FF hb)).elim
    rw[this];simp[jp.add]
  ·split at h5
   ·simp only [Zm]at l3
    rw[l3]
    simp only[vr]at M
    rw[M]
    dsimp only
    rw[j4]
    refine eM hc l2 h5 λb SU SL h6=>?_
    have hb:b=0:=by
     by_cases e1:Rk=none
     ·exact SU e1
     ·have:=SL e1;omega
    subst hb
    refine eM hc l1 h6 λa Vv Wu h7=>?_
    have ha:a=0:=by
     by_cases e1:lo'=none
     ·exact Vv e1
     ·have:=Wu e1;omega
    subst ha
    exact hK0 _ _ (by simp only[vr];rfl) h7
   ·exact h5.elim
  ·exact h5.elim
 case slA n esz x lo hi mx=>
  let ⟨u,M,N⟩:=bQ RH hc hs
  let ⟨lo',l1,h3⟩:=l7 RH hc N
  let ⟨Rk,l2,h4⟩:=l7 RH hc h3
  let ⟨mx',l3,h5⟩:=l7 RH hc h4
  split at h5
  ·rename_i k o
   simp only[vr]at M
   let ⟨b,c',e',g1,g2⟩:=M
   rw[g2]
   refine eM hc l3 h5 λm _ _ h6=>eM hc l2 h6 λb' _ _ h7=>eM hc l1 h7 λa _ _ h8=>hK0 _ _ ?_ h8
   simp only[vr]
   refine⟨b,c',e',g1,?_⟩
   unfold VI
   by_cases hm:m=a
   ·subst hm;simp
   ·rw [DX hm]
    have:Nat.beq m a=false:=by
     cases hb:Nat.beq m a with
     |false=>rfl
     |true=>exact(hm (FF hb)).elim
    rw[this];simp[jp.add]
  ·exact h5.elim
 case slT x lo hi=>
  let ⟨u,M,N⟩:=bQ RH hc hs
  let ⟨lo',l1,h3⟩:=l7 RH hc N
  let ⟨Rk,l2,h4⟩:=l7 RH hc h3
  split at h4
  ·simp only[vr]at M
   rw[M]
   exact eM hc l2 h4 λb' _ _ h7=>eM hc l1 h7 λa _ _ h8=>hK0 _ _ (by simp only[vr]) h8
  ·exact h4.elim
 case app ty esz bytes z s x=>
  let ⟨u,M,N,Yf⟩:=D1 hc (RH.arg s) hs
  let ⟨v,h3,h4⟩:=bQ RH hc N
  cases hz:Nat.beq (b7 z) esz with
  |false=>rw[hz]at h4;exact h4.elim
  |true=>
    rw[hz]at h4
    have hz:=FF hz
    rw[b5]at hz
    refine iy9 hh hp M h3 hz h4 λv h' ν' a lh' T2 g1 g2 g3 g4=>hK v h' ν' a lh' (λhm=>?_) (λe=>by cases e) g1 g2 g3 g4
    let ⟨l,q1,q2⟩:=UK hm
    simp only[Lg]at q1
    split at q1
    ·rename_i l0 p de
     cases q1
     have:=Yf _ _ de
     subst this
     have VB:plA≠none:=by
      rcases hp with ⟨g,_⟩|⟨_,_,g⟩
      ·cases g
      ·rw[g];simp
     exact T2 VB wn λl hn k W=>q2 k (by rw[de]at hn;cases hn;exact HA _ W)
    ·cases q1
 case mks ty n cs=>
  refine hplace (o:=.cells (cs.map HV) ty) (c:=0) (ez:=0) (F:=λb=>.slice (some (.l b 0)) n n) (λhm=>?_) rfl av (λp b lh' hb TF=>⟨b,0,0,cs,gF _ _ _,hb,qh cs⟩) hs (λp b h' lh' TF hr SS=>⟨_,?_,SS⟩)
  ·let ⟨l,g,_⟩:=UK hm;exact hplN g g
  ·simp only[vr];exact⟨b,0,0,gF _ _ _,rfl⟩
 case call f xs=>
  let ⟨us,M,N⟩:=mg RH hc hs
  exact SB f us h K Qe ν nV nS _ lh KA M hh N λv h' ν' a lh' hm=>hK v h' ν' a lh' (λh=>by let ⟨e1,e2,e3⟩:=hm h;subst e1 e2 e3;exact ze.refl _ _ _ _ _ _) (λe=>by cases e)
 case isn neg x=>
  let ⟨u,M,N⟩:=bQ RH hc hs
  split at N
  ·simp only[vr]at M;rw[M];exact hK0 _ _ (by simp only[vr];cases neg<;>rfl) N
  ·simp only[vr]at M;let ⟨b,c,ez,g1,g2⟩:=M;rw[g2];exact hK0 _ _ (by simp only[vr];cases neg<;>rfl) N
  ·simp only [vr]at M
   let ⟨p,c,ez,g1,g2,g3,g4,g5⟩:=M
   rw[g1]
   simp only[bR]at N
   cases p with
   |none=>exact hK0 _ _ (by simp only[vr];cases neg<;>rfl) (N.1 (by
      rename_i n f
      cases n with
      |zero=>rfl
      |succ n=>let ⟨At,az,k1,_⟩:=g5 0 E;cases k1))
   |some p=>exact hK0 _ _ (by simp only[vr];cases neg<;>rfl) N.2
  ·simp only[vr]at M
   simp only[bR]at N
   rcases M with ⟨g1,g2,g3⟩|⟨b,c,e',g1,g2,_⟩
   ·rw[g3];exact hK0 _ _ (by simp only[vr];cases neg<;>rfl) (N.1 g2)
   ·rw[g2];exact hK0 _ _ (by simp only[vr];cases neg<;>rfl) N.2
  ·exact N.elim
 case clr esz z x=>
  let ⟨u,M,N⟩:=bQ RH hc hs
  split at N
  ·rename_i k off n
   rw[bq]at N
   split at N
   ·rename_i e' n' f ty W
    cases hb:(Nat.beq e' esz&&nM e' (z.map HV)) with
    |false=>rw[hb]at N;exact N.elim
    |true=>
      rw[hb]at N
      simp only[cond_true,bR,GV]at N
      simp only[Eg]at hb
      have:=FF hb.1
      subst this
      let ⟨⟨VA,Rb⟩,h3⟩:=N
      simp only[vr]at M
      rcases M with ⟨_,g2,_⟩|⟨b,c,e2,o,g1,g2,g3,g4⟩
      ·omega
      ·rw [g2,g4 VA]
       have he:e2=e':=by
        rcases hh.blk k _ W with ⟨k1,_⟩|⟨b2,c2,az,k1,_⟩
        ·rw[g1]at k1;cases k1
        ·rw[g1]at k1;simp at k1;exact k1.2.2
       subst he
       let ⟨cs,q1,q2,q3⟩:=acU (z:=z.map HV) (za:=z) hh W g1 (qh z) hb.2 n Rb
       rw[jd]at h3
       refine⟨cs,ty,q1,E,q2,hK _ _ ν _ _ (λhm=>?_) (λe=>by cases e) (Nu.sub_refl ν) q3 (by simp only[vr,bC];exact⟨[],rfl,rfl⟩) h3⟩
       let ⟨l,q4,_⟩:=UK hm
       cases q4
   ·exact N.elim
  ·exact N.elim
 case callv x xs=>
  let ⟨u,M,N⟩:=bQ RH hc hs
  let ⟨us,h3,h4⟩:=mg RH hc N
  split at h4
  ·simp only[vr]at M;let ⟨az,bs,g1,g2,g3⟩:=M;rw[g1]
   rw[mt,mt]at h4
   exact SB _ _ h K Qe ν nV nS _ lh KA (lM (lM g2 h3) g3) hh h4 λv h' ν' a lh' hm=>hK v h' ν' a lh' (λh=>by let ⟨e1,e2,e3⟩:=hm h;subst e1 e2 e3;exact ze.refl _ _ _ _ _ _) (λe=>by cases e)
  ·exact h4.elim
end
end Go.Dx
