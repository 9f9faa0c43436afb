/- Part 2 of a proof. No conditions. -/
import Derived.Test.YtefgedeiipggkaaGreatDoorLb1
import Derived.RangeFuncOwn
import Derived.RangeFuncNested
import Derived.Laws.Append
set_option maxRecDepth 100000
set_option linter.unusedVariables false
set_option linter.unusedSimpArgs false
namespace Go.Sx
inductive o0 where|op (o:jt)|yld (t:Nat) (dst:Option Nat) (xs:List gn)|yldG (d:Nat) (want:Bool) (t:Nat) (dst:Option Nat) (xs:List gn)
inductive jB where|skip|reg (ops:List o0)|draw (ds:List jq)|drawY (ds:List jq) (xs:List o0)|seq (a b:jB)|cond (c:gn) (a b:jB)|block (id:Nat) (b:jB)|loop (b:jB)|exit (id:Nat)|ret|scope (b:jB)
structure jc where
 f:FuncId
 ntmps:Nat
 body:jB
inductive hU where|skip|reg (ops:List jt)|draw (ds:List jq)|allo (t:OT)|alloq (t:OT)|seq (a b:hU)|cond (c:gn) (a b:hU)|block (id:Nat) (b:hU)|loop (b:hU)|exit (id:Nat)|ret|scope (b:hU)|range (g:gn) (ps:List Nat) (asg body:hU) (AS:List jc)
def uk (o:Oper):Option (Nat×List gn) :=
 match o.guard,o.op with
 |none,.call c=>match c.callee with|.value (.tmp t)=>some (t,c.args.toList.map bn)|_=>none
 |_,_=>none
def rY (ops:Array Oper) (o:Oper):Option (Nat×Bool×Nat×List gn) :=
 match o.guard,o.op with
 |some (j,want),.call c=>match c.callee,(ops[j]?).bind (·.dst) with|.value (.tmp t),some d=>some (d,want,t,c.args.toList.map bn)|_,_=>none
 |_,_=>none
def lg (P:Program) (AQ:List TypeId) (ops:Array Oper):List Oper->Option (List o0)
 |[]=>some []
 |o::l=>match lg P AQ ops l with
   |none=>none
   |some xs=>match uk o with
     |some (t,az)=>some (.yld t o.dst az::xs)
     |none=>match rY ops o with
       |some (d,want,t,az)=>some (.yldG d want t o.dst az::xs)
       |none=>match lT P AQ ops o with|some x=>some (.op x::xs)|none=>none
def zj (ops:Array Oper):Nat->Nat->Array Bool->Bool
 |0,_,listed=>(Region.ready .any ops listed).isEmpty|f+1,k,listed=>Region.ready .any ops listed==[k]&&zj ops f (k+1) (listed.setIfInBounds k true)
def yb (n y:Nat):Array Bool:=((List.range n).map λi=>Nat.blt i y).toArray
def Hk (ops:Array Oper):Bool:=(List.range ops.size).all λi=>match ops[i]? with
 |some o=>o.after.toList.all λe=>!Region.binds .any e||Nat.blt e.on i
 |none=>true
def P7 (ops:Array Oper) (y:Nat):Bool:=((List.range y).all λj=>Hc ops ops.size y j)&&(List.range ops.size).all λk=>Nat.ble k y||Hc ops ops.size k y
def uJ (P:Program) (AQ:List TypeId) (ops:Array Oper) (y:Nat):Option (List jq×List o0) :=
 match fR P AQ ops (ops.toList.take y),lg P AQ ops (ops.toList.drop y) with
 | some xs,some AS=>if P.follows .mixedOrders&&sr (ops.toList.take y).toArray (iO (ops.toList.take y).toArray xs (cS xs 0) xs 0)&&A8 (ops.toList.take y).toArray (iO (ops.toList.take y).toArray xs (cS xs 0) xs 0).length 0 (Array.replicate ops.size false)&&(iO (ops.toList.take y).toArray xs (cS xs 0) xs 0).length==y&&Nat.ble y ops.size &&
    (iO (ops.toList.take y).toArray xs (cS xs 0) xs 0).all (λd=>HQ d.o.op||d.ws.isEmpty)&&Hk ops&&P7 ops y&&zj ops (ops.size-y) y (yb ops.size y) then some (iO (ops.toList.take y).toArray xs (cS xs 0) xs 0,AS) else none
 |_,_=>none
def vw9 (ops:Array Oper):Option Nat:=ops.toList.findIdx? λo=>(uk o).isSome||(rY ops o).isSome
def kF (P:Program) (AQ:List TypeId):Code->Option jB
 |.skip=>some .skip|.label _=>some .skip|.region _ ops false=>(lg P AQ ops ops.toList).map .reg
 |.region _ ops true=>match vw9 ops with|none=>(sh P AQ ops).map .draw|some y=>(uJ P AQ ops y).map λp=>.drawY p.1 p.2
 |.seq a b=>match kF P AQ a,kF P AQ b with|some x,some y=>some (.seq x y)|_,_=>none
 |.cond c a b=>match kF P AQ a,kF P AQ b with|some x,some y=>some (.cond (bn c) x y)|_,_=>none
 |.block id b=>(kF P AQ b).map (.block id)|.loop b=>(kF P AQ b).map .loop|.exit id=>some (.exit id)|.ret=>some .ret|.scope b=>(kF P AQ b).map .scope|_=>none
def sF (P:Program) (AQ:List TypeId) (fn:Func):Option (Nat×jB) :=
 match fn.body,fn.results.toList with
 |some c,[]=>(kF P AQ c).map λx=>(fn.ntmps,x)
 |_,_=>none
def dF (P:Program) (AQ:List TypeId) (AS:List jc):Code->Option hU
 |.skip=>some .skip|.label _=>some .skip|.region _ ops false=>(fR P AQ ops ops.toList).map .reg
 |.region _ ops true=>match Cz P AQ ops with
   |some t=>some (.allo t)
   |none=>match um P AQ ops with|some t=>some (.alloq t)|none=>(sh P AQ ops).map .draw
 |.seq a b=>match dF P AQ AS a,dF P AQ AS b with|some x,some y=>some (.seq x y)|_,_=>none
 |.cond c a b=>match dF P AQ AS a,dF P AQ AS b with|some x,some y=>some (.cond (bn c) x y)|_,_=>none
 |.block id b=>(dF P AQ AS b).map (.block id)|.loop b=>(dF P AQ AS b).map .loop|.exit id=>some (.exit id)|.ret=>some .ret|.scope b=>(dF P AQ AS b).map .scope
 |.rangeFunc g ps a b=>match dF P AQ AS a,dF P AQ AS b with|some x,some y=>some (.range (bn g) ps.toList x y AS)|_,_=>none
 |_=>none
def v6 (next:List ak->List ar->Prop) (Pg:Ex->List ak->List ar->Prop):Ex->List ak->List ar->Prop
 |.normal,sl,lh=>next sl lh
 |.exit i,sl,lh=>Pg (.exit i) sl lh|.ret,sl,lh=>Pg .ret sl lh
def xJ (id:Nat) (Pg:Ex->List ak->List ar->Prop):Ex->List ak->List ar->Prop
 |.normal,sl,lh=>Pg .normal sl lh|.exit i,sl,lh=>if i=id then Pg .normal sl lh else Pg (.exit i) sl lh
 |.ret,sl,lh=>Pg .ret sl lh
def Eb:List jc->FuncId->Option jc
 |[],_=>none|x::l,f=>if f=x.f then some x else Eb l f
def kw (l:Nat):ak:=.raw (.func (.yield l) #[] #[])
def mw:List ak->List Nat->List ak->List ak
 |sl,p::ps,x::xs=>mw (sl.set p x) ps xs|sl,_,_=>sl
abbrev YH:=List ak->List ar->(Ex->List ar->Prop)->Prop
abbrev IQ:=Ex->List ak->List ar->Option Ex->Prop
def Kc (PR:List ak->List ar->Option Ex->Prop) (sl:List ak) (d:Option Nat):Ex->List ar->Prop
 |.normal,lh=>PR (fl sl d (.bool true)) lh none|x,lh=>PR (fl sl d (.bool false)) lh (some x)
def cP (w0:World) (Pe:FuncId->ci) (l:Nat) (QE:YH):List o0->List ak->List ar->Option Ex->(List ak->List ar->Option Ex->Prop)->Prop
 |[],sl,lh,g,PR=>PR sl lh g|.op o::rest,sl,lh,g,PR=>fH w0 Pe [o] sl lh λsl lh=>cP w0 Pe l QE rest sl lh g PR
 |.yld t d xs::rest,sl,lh,g,PR=>g=none/\sl.getD t .any=kw l/\QE (xs.map (arg sl)) lh (Kc (λsl lh g=>cP w0 Pe l QE rest sl lh g PR) sl d)
 |.yldG d want t dst xs::rest,sl,lh,g,PR=>match sl.getD d .any with
   | .bool b=>(b=want->g=none/\(sl.set d (.bool want)).getD t .any=kw l/\QE (xs.map (arg (sl.set d (.bool want)))) lh (Kc (λsl lh g=>cP w0 Pe l QE rest sl lh g PR) (sl.set d (.bool want)) dst)) /\
      (b=!want->cP w0 Pe l QE rest (fl (sl.set d (.bool (!want))) dst (.tup [])) lh g PR)
   |.tup vs=>cP w0 Pe l QE rest (fl (sl.set d (.tup vs)) dst (.tup [])) lh g PR|.int ..=>cP w0 Pe l QE rest (fl sl dst (.tup [])) lh g PR|_=>False
def adh (next:List ak->List ar->Option Ex->Prop) (Pg:IQ):IQ
 |.normal,sl,lh,g=>next sl lh g
 |.exit i,sl,lh,g=>Pg (.exit i) sl lh g|.ret,sl,lh,g=>Pg .ret sl lh g
def ye (id:Nat) (Pg:IQ):IQ
 |.normal,sl,lh,g=>Pg .normal sl lh g|.exit i,sl,lh,g=>if i=id then Pg .normal sl lh g else Pg (.exit i) sl lh g
 |.ret,sl,lh,g=>Pg .ret sl lh g
def lW (w0:World) (Pe:FuncId->ci) (l:Nat) (QE:YH):jB->List ak->List ar->Option Ex->IQ->Prop
 |.skip,sl,lh,g,Pg=>Pg .normal sl lh g|.reg ops,sl,lh,g,Pg=>cP w0 Pe l QE ops sl lh g (Pg .normal)|.draw ds,sl,lh,g,Pg=>ow w0 Pe ds sl lh λsl lh=>Pg .normal sl lh g
 |.drawY ds xs,sl,lh,g,Pg=>ow w0 Pe ds sl lh λsl lh=>cP w0 Pe l QE xs sl lh g (Pg .normal)
 |.seq a b,sl,lh,g,Pg=>lW w0 Pe l QE a sl lh g (adh (λsl lh g=>lW w0 Pe l QE b sl lh g Pg) Pg)
 |.cond c a b,sl,lh,g,Pg=>match arg sl c with|.bool t=>(t=true->lW w0 Pe l QE a sl lh g Pg)/\(t=false->lW w0 Pe l QE b sl lh g Pg)|_=>False
 |.block id b,sl,lh,g,Pg=>lW w0 Pe l QE b sl lh g (ye id Pg)
 | .loop b,sl,lh,g,Pg=>∃ (ι:Type) (shs:ι->List ak) (shl:ι->List ar) (shg:ι->Option Ex) (μ:ι->Nat) (i0:ι),sl=shs i0/\lh=shl i0/\g=shg i0 /\
    ∀i,lW w0 Pe l QE b (shs i) (shl i) (shg i) (adh (λsl' lh' g'=>∃i',sl'=shs i'/\lh'=shl i'/\g'=shg i'/\μ i'<μ i) Pg)
 |.exit id,sl,lh,g,Pg=>Pg (.exit id) sl lh g|.ret,sl,lh,g,Pg=>Pg .ret sl lh g|.scope b,sl,lh,g,Pg=>lW w0 Pe l QE b sl lh g Pg
def ap5 (Pg:Ex->List ak->List ar->Prop) (sl:List ak):IQ
 |.exit _,_,_,_=>False|_,_,lh,none=>Pg .normal sl lh|_,_,lh,some x=>Pg x sl lh
def cK (w0:World) (Pe:FuncId->ci) (nb:Nat):hU->List ak->List ar->(Ex->List ak->List ar->Prop)->Prop
 |.skip,sl,lh,Pg=>Pg .normal sl lh|.reg ops,sl,lh,Pg=>fH w0 Pe ops sl lh (Pg .normal)|.draw ds,sl,lh,Pg=>ow w0 Pe ds sl lh (Pg .normal)|.allo t,sl,lh,Pg=>qP w0 Pe t sl lh (Pg .normal)|.alloq t,sl,lh,Pg=>qP w0 (zI Pe) t sl lh (Pg .normal)|.seq a b,sl,lh,Pg=>cK w0 Pe nb a sl lh (v6 (λsl lh=>cK w0 Pe nb b sl lh Pg) Pg)
 |.cond c a b,sl,lh,Pg=>match arg sl c with|.bool t=>(t=true->cK w0 Pe nb a sl lh Pg)/\(t=false->cK w0 Pe nb b sl lh Pg)|_=>False
 |.block id b,sl,lh,Pg=>cK w0 Pe nb b sl lh (xJ id Pg)
 | .loop b,sl,lh,Pg=>∃ (ι:Type) (shs:ι->List ak) (shl:ι->List ar) (μ:ι->Nat) (i0:ι),Sub nb sl lh (shs i0) (shl i0) /\
    ∀i,cK w0 Pe nb b (shs i) (shl i) (v6 (λsl' lh'=>∃i',Sub nb sl' lh' (shs i') (shl i')/\μ i'<μ i) Pg)
 |.exit id,sl,lh,Pg=>Pg (.exit id) sl lh|.ret,sl,lh,Pg=>Pg .ret sl lh|.scope b,sl,lh,Pg=>cK w0 Pe nb b sl lh Pg
 |.range g ps asg body AS,sl,lh,Pg=>match arg sl g with
   |.fn (.func f) [] ys=>match Eb AS f with
     | some it=>∀ l,lW w0 Pe l (λxs lh PR=>xs.length=ps.length/\cK w0 Pe lh.length asg (mw sl ps xs) lh (v6 (λsl lh'=>cK w0 Pe lh.length body sl lh' λx _ lh=>PR x lh) λ_ _ _=>False)) it.body
        (kw l::ys++List.replicate (it.ntmps-(ys.length+1)) .any) lh none (ap5 Pg sl)
     |none=>False
   |_=>False
def Ug:Ex->Exit
 |.normal=>.normal|.exit i=>.exit i|.ret=>.ret
def kE (B:dN):List Deferred->World->Prop
 |[],_=>True|d::ds,w=>∃AI,d={ target:=.collected AI,args:=#[] }/\w.heap[AI]? = some (.deferred (some []))/\(B.wf.heap.size<=AI/\B.w0.heap.size<=AI)/\(∀d'∈ds,d'.target≠.collected AI)/\kE B ds w
theorem kE.keeps {B:dN} {w w':World} (hk:∀ (AI:Nat) (o:Option (List Deferred)),w.heap[AI]? = some (Obj.deferred o)->w'.heap[AI]? = some (Obj.deferred o)):∀ {ds:List Deferred},kE B ds w->kE B ds w'
 |[],_=>trivial|_::_,⟨AI,M,Q,h3,h4,h5⟩=>⟨AI,M,hk _ _ Q,h3,h4,kE.keeps hk h5⟩
theorem kE.old {B:dN} {w:World} {AI:Nat}:∀ {ds:List Deferred},kE B ds w->(∀ o:Option (List Deferred),w.heap[AI]? ≠ some (Obj.deferred o))->∀ d'∈ds,d'.target≠.collected AI
 |[],_,_,d',hd=>by cases hd
 |d::ds,⟨D',M,Q,_,_,h4⟩,hn,d',hd=>by
   rcases List.mem_cons.1 hd with rfl|hd
   ·rw[M];intro e;cases e;exact hn _ Q
   ·exact kE.old h4 hn d' hd
theorem pL {B:dN} {w w':World} (hk:KeepsOthers w w') {ds:List Deferred} (h:kE B ds w):kE B ds w':=h.keeps λAI _ hD=>hk.same AI _ hD rfl
def SR (B:dN) (m:aN) (sl:List ak) (lh:List ar) (a:Act) (w:World):Prop:=aE m sl a.tmps.toList/\kE B a.defers w/\bk B m lh w
def dN.at (B:dN) (m:aN) (lh:List ar) (w:World) (ds:List Deferred):dN:=⟨B.w0,w,λb=>∃k cs ty,lh[k]? = some (.cells cs ty)/\m k=some b,ds⟩
theorem bk.rebase {B:dN} {m:aN} {lh:List ar} {w:World} (h:bk B m lh w) (ds:List Deferred):bk (B.at m lh w ds) m lh w :=
 ⟨rfl,rfl,rfl,h.size,h.old,Ah _,λ_ _ _=>rfl,λk cs ty hk=>let ⟨b,vs,M,Q,h3,h4,_⟩:=h.loc k cs ty hk;⟨b,vs,M,Q,h3,h4,.inr ⟨k,cs,ty,hk,M⟩⟩,h.inj,h.dom,h.dead,h.rng⟩
theorem bk.withDs {B:dN} {m:aN} {lh:List ar} {w:World} (h:bk B m lh w) (ds:List Deferred):bk { B with ds:=ds } m lh w :=
 ⟨h.os,h.tape,h.output,h.size,h.old,h.fsize,h.kept,h.loc,h.inj,h.dom,h.dead,h.rng⟩
theorem bk.noDs {B:dN} {m:aN} {lh:List ar} {w:World} {ds:List Deferred} (h:bk { B with ds:=ds } m lh w):bk B m lh w :=
 ⟨h.os,h.tape,h.output,h.size,h.old,h.fsize,h.kept,h.loc,h.inj,h.dom,h.dead,h.rng⟩
theorem bk.unbase {B:dN} {m m':aN} {lh lh':List ar} {w w':World} {ds:List Deferred} (h:bk B m lh w) (h':bk (B.at m lh w ds) m' lh' w'):bk B m' lh' w'/\KeepsOthers w w':=by
 have hown:∀ b,(∃ k cs ty,lh[k]? = some (.cells cs ty)/\m k=some b)->B.wf.heap.size<=b∨B.own b:=λb ⟨k,cs,ty,M,Q⟩=>by
  let ⟨b',vs,g1,_,_,_,g2⟩:=h.loc k cs ty M
  rw[Q]at g1;cases g1;exact g2
 refine⟨⟨h'.os.trans h.os,h'.tape.trans h.tape,h'.output.trans h.output,h'.size,h'.old,E0 h.fsize h'.fsize,λb hb ho=>?_,λk cs ty hk=>?_,h'.inj,h'.dom,h'.dead,h'.rng⟩,⟨h'.fsize,λk o hk ho=>?_⟩⟩
 ·rw[h'.kept b (ET hb h.fsize) (λhn=>by rcases hown b hn with M|M;exact absurd hb K;exact ho M)];exact h.kept b hb ho
 ·let ⟨b,vs,M,Q,h3,h4,h5⟩:=h'.loc k cs ty hk
  refine⟨b,vs,M,Q,h3,h4,?_⟩;rcases h5 with h5|h5
  ·exact .inl (E0 h.fsize h5)
  ·exact hown b h5
 ·refine(h'.kept k (Array.getElem?_eq_some_iff.1 hk).1 (λ⟨k',cs,ty,M,Q⟩=>?_)).trans hk
  let ⟨b',vs,g1,_,g3,_⟩:=h.loc k' cs ty M
  rw[Q]at g1;cases g1;rw[hk]at g3;cases g3;cases ho
def QC (B:dN) (nb:Nat) (lh0:List ar) (m0:aN) (w1:World) (Pg:Ex->List ak->List ar->Prop) (e:Exit) (a:Act) (w:World):Prop :=
 ∃x sl lh m,e=Ug x/\SR B m sl lh a w/\o4 nb lh0 m0 lh m/\KeepsOthers w1 w/\Pg x sl lh
section
variable {P:Program} {B:dN} {Pe:FuncId->ci} {AQ:List TypeId} {F:Fence} {n nb:Nat}
theorem QC.of {lh0:List ar} {m0:aN} {lh:List ar} {m:aN} {w0 w1:World} {Pg Q':Ex->List ak->List ar->Prop} {e:Exit} {a:Act} {w:World} (he:o4 nb lh0 m0 lh m) (hk:KeepsOthers w0 w1) (hq:∀ x sl lh,Pg x sl lh->Q' x sl lh)
 (h:QC B nb lh m w1 Pg e a w):QC B nb lh0 m0 w0 Q' e a w:=by
 let ⟨x,sl,lh',m',M,Q,h3,h4,h5⟩:=h
 exact⟨x,sl,lh',m',M,Q,he.trans h3,hk.trans h4,hq _ _ _ h5⟩
theorem hgx {c:Code} {Pg:Exit->Act->World->Prop} {a:Act} {w:World} (hQ:∀ l a w,¬ Pg (.goto l) a w) (h:c.wpIn F n P Pg a w):(Code.scope c).wpIn F n P Pg a w:=by
 intro b k cs WZ hb hr;have h0:(lone (b.atR a (.code (.scope c)::k)) cs w).fenced P F:=fenced_calm hb hr rfl;have hstep:∀{a:Act} {w:World},step P (lone (b.atR a (.code (.scope c)::k)) cs w)=.next (lone (b.atR a (.code c::.inScope c::k)) cs w):=λ{a w}=>step_lone_go (by simp[stepG,stepG.exec,Frame.atR]);have hend:∀{a:Act} {w:World},step P (lone (b.atR a (.inScope c::k)) cs w)=.next (lone (b.atR a k) cs w):=λ{a w}=>step_lone_go (by simp[stepG,stepG.exec,Frame.atR])
 let ⟨e,a₁,w₁,hq,harr⟩:=h b (.inScope c::k) cs WZ hb hr
 have hx:∀id,exitTo id (.inScope c::k)=exitTo id k:=λid=>by simp[exitTo]
 cases e with
 |normal=>exact⟨.normal,a₁,w₁,hq,.head h0 hstep (StepsIn.trans harr (.one (fenced_calm hb hr rfl) hend))⟩
 |exit id=>exact⟨.exit id,a₁,w₁,hq,λk' hk=>.head h0 hstep (harr.1 k' (by rw[hx];exact hk)),λVg hk=>let ⟨nzb5,g1,g2⟩:=harr.2 Vg (by rw[hx];exact hk);⟨nzb5,g1,.head h0 hstep g2⟩⟩
 |goto l=>exact(hQ l _ _ hq).elim|ret=>exact⟨_,a₁,w₁,hq,.of_steps (.one h0 hstep) harr⟩|panic yba=>exact⟨_,a₁,w₁,hq,.of_steps (.one h0 hstep) harr⟩|outgrown=>exact⟨_,a₁,w₁,hq,.of_steps (.one h0 hstep) harr⟩
theorem hh2 {c:Code} {Pg:Exit->Act->World->Prop} {a:Act} {w:World} (Ru:Nat->Act->World->Prop) (ny19:∃ k,Ru k a w)
 (round:∀k a w,Ru k a w->c.wpIn F n P (Exit.then (λa' w'=>∃k',k'<k/\Ru k' a' w') Pg) a w):(Code.loop c).wpIn F n P Pg a w:=by
 intro b k cs WZ hb hr;have key:∀ j a w,Ru j a w->∃ e a' w',Pg e a' w'/\ArrivesIn (Machine.fenced P F) P (lone (b.atR a (.code c::.inLoop c::k)) cs w) b k cs e a' w':=by
  intro j;induction j using Nat.strongRecOn with
  |_ j ih=>
    intro a w hI
    let ⟨e,a₁,w₁,hq,harr⟩:=round j a w hI b (.inLoop c::k) cs WZ hb hr
    cases e with
    |normal=>
      let ⟨k',Pj,hI₁⟩:=hq
      let ⟨ybh,yaw,vrel,nm12,harr₂⟩:=ih k' Pj a₁ w₁ hI₁
      exact⟨ybh,yaw,vrel,nm12,.of_steps (StepsIn.trans harr (.one (fenced_calm hb hr rfl) stepR_inLoop)) harr₂⟩
    |exit id=>exact⟨_,a₁,w₁,hq,.pass (x:=.inLoop c) rfl (λ_ _=>.inl au) harr⟩|goto l=>exact⟨_,a₁,w₁,hq,.pass (x:=.inLoop c) rfl (λ_ _=>.inl au) harr⟩|ret=>exact⟨_,a₁,w₁,hq,.pass (x:=.inLoop c) rfl (λ_ _=>.inl au) harr⟩|panic yba=>exact⟨_,a₁,w₁,hq,.pass (x:=.inLoop c) rfl (λ_ _=>.inl au) harr⟩|outgrown=>exact⟨_,a₁,w₁,hq,.pass (x:=.inLoop c) rfl (λ_ _=>.inl au) harr⟩
 let ⟨k0,h0⟩:=ny19
 let ⟨e,a',w',hq,harr⟩:=key k0 a w h0
 exact⟨e,a',w',hq,.of_steps (.one (fenced_calm hb hr rfl) stepR_loop) harr⟩
def IS:Ex->Code
 |.normal=>.skip|.exit i=>.exit i|.ret=>.ret
def Iv:Ex->Option Ex
 |.normal=>none|x=>some x
structure KB (l:Nat) (Q8 W':World):Prop where
 size:Q8.heap.size<=W'.heap.size
 same:∀(k:Nat) (o:Obj),k≠l->Q8.heap[k]? = some o->o.isCells=false->W'.heap[k]? = some o
theorem KB.refl (l:Nat) (Q8:World):KB l Q8 Q8:=⟨Ah _,λ_ _ _ h _=>h⟩
theorem KB.keeps {l:Nat} {QG Q8 W':World} (h:KB l QG Q8) (k:KeepsOthers Q8 W'):KB l QG W':=⟨E0 h.size k.size,λi o hi ho hc=>k.same i o (h.same i o hi ho hc) hc⟩
theorem KB.put {l:Nat} {QG Q8:World} (h:KB l QG Q8) (o:Obj):KB l QG (Q8.putObj l o):=⟨by simpa using h.size,λi o' hi ho hc=>(World.putObj_heap_other hi).trans (h.same i o' hi ho hc)⟩
def JW (l:Nat) (rec:LoopState->Option Code->Loop) (g:Option Ex) (w:World):Prop:=w.heap[l]? = some (.loop (rec (if g.isNone then .ready else .done) (g.map IS)))
theorem bk.putObj {m:aN} {lh:List ar} {w:World} (h:bk B m lh w) {l:Nat} {o:Obj} (hl:w.heap[l]? = some o) (ho:o.isCells=false) (hf:B.wf.heap.size<=l) (h0:B.w0.heap.size<=l) (o':Obj):bk B m lh (w.putObj l o'):=by
 refine⟨h.os,h.tape,h.output,by simpa using h.size,λb hb=>(World.putObj_heap_other K).trans (h.old b hb),by simpa using h.fsize,λb hb ho=>(World.putObj_heap_other K).trans (h.kept b hb ho),λk cs ty hk=>?_,h.inj,h.dom,h.dead,λk b hk=>by simpa using h.rng k b hk⟩
 let ⟨b,vs,M,Q,h3,h4,h5⟩:=h.loc k cs ty hk
 refine⟨b,vs,M,Q,(World.putObj_heap_other (λe=>?_)).trans h3,h4,h5⟩;subst e;rw[hl]at h3;cases h3;cases ho
theorem aeN {lh lh':List ar} {m m':aN} {w:World} (h:bk B m lh w) (he:o4 lh.length lh m lh' m'):jI lh m lh' m':=by
 refine⟨λk b hk=>he.1 k b ?_ hk,λk hk=>he.2 k (List.getElem?_eq_some_iff.1 hk).1 hk⟩;rcases EM k lh.length with Pj|Sf
 ·exact Pj
 ·rw[h.dom k Sf]at hk;cases hk
structure IR (B:dN) (l:Nat) (rec:LoopState->Option Code->Loop) (W1:World) (lh0:List ar) (m0:aN) (m:aN) (sl:List ak) (lh:List ar) (g:Option Ex) (a:Act) (w:World):Prop where
 vs:aE m sl a.tmps.toList
 df:a.defers=[]
 hh:bk B m lh w
 ext:jI lh0 m0 lh m
 rc:JW l rec g w
 kb:KB l W1 w
def YS (B:dN) (F:Fence) (n:Nat) (P:Program) (l:Nat) (rec:LoopState->Option Code->Loop) (W1:World) (lh0:List ar) (m0:aN) (QE:YH):Prop :=
 ∀ (m:aN) (lh:List ar) (w:World) (args:List ak) (vs:List Value) (PR:Ex->List ar->Prop),bk B m lh w->jI lh0 m0 lh m->JW l rec none w->KB l W1 w->aE m args vs->QE args lh PR ->
  ∃fn tmps asg body,(Instr.yield l vs.toArray).run P w=.ok (.round l fn tmps asg body) w/\RoundIn F (n-1) P l fn tmps asg body w λe w'=>∃x m' lh',e=.returned (.bool (Iv x).isNone)/\bk B m' lh' w'/\jI lh m lh' m'/\JW l rec (Iv x) w'/\KB l W1 w'/\PR x lh'
section it
variable {l:Nat} {rec:LoopState->Option Code->Loop} {W1:World} {lh0:List ar} {m0:aN} {QE:YH}
def QI (B:dN) (l:Nat) (rec:LoopState->Option Code->Loop) (W1:World) (lh0:List ar) (m0:aN) (Pg:IQ) (e:Exit) (a:Act) (w:World):Prop :=
 ∃x sl lh m g,e=Ug x/\IR B l rec W1 lh0 m0 m sl lh g a w/\Pg x sl lh g
theorem IR.step {m m':aN} {sl sl':List ak} {lh lh':List ar} {g:Option Ex} {a a':Act} {w w':World} (h:IR B l rec W1 lh0 m0 m sl lh g a w) (hs:kq (B.at m lh w []) m' sl' lh' a' w') (he:jI lh m lh' m'):IR B l rec W1 lh0 m0 m' sl' lh' g a' w':=by
 let ⟨M,Q⟩:=h.hh.unbase hs.2.2
 exact⟨hs.1,hs.2.1,M,h.ext.trans he,Q.same _ _ h.rc rfl,h.kb.keeps Q⟩
theorem hl1 (hF:lC F) (hY:YS B F n P l rec W1 lh0 m0 QE) {Pg:Exit->Act->World->Prop} {next:Act->World->Prop} {o:Oper} {c:Call} {t:Nat} {sl:List ak} {lh:List ar} {m:aN} {a:Act} {w:World} {PR:Ex->List ar->Prop}
 (hs:IR B l rec W1 lh0 m0 m sl lh none a w) (SZ:sl.getD t .any=kw l) (hv:QE ((c.args.toList.map bn).map (arg sl)) lh PR) (ho:o.op=.call c) (hcal:c.callee=.value (.tmp t))
 (ih:∀x lh' m' a' w',IR B l rec W1 lh0 m0 m' (fl sl o.dst (.bool (Iv x).isNone)) lh' (Iv x) a' w'->PR x lh'->next a' w'):o.wpIn F n P a w next Pg:=by
 refine⟨λf _=>hF.fn f,?_⟩;have hsem:o.semAt F.round a.eval=execOp a.eval o:=by
  unfold Oper.semAt;split
  ·rename_i UM;rw[ho]at UM;cases UM
  ·rfl
 have ip11:a.eval (.tmp t)=.func (.yield l) #[] #[]:=by have:=oD hs.vs t undef;rw[SZ]at this;simp[kw,AW]at this;simpa[Act.eval] using this
 let ⟨fn,tmps,asg,body,hrun,hround⟩:=hY m lh w _ _ _ hs.hh hs.ext hs.rc hs.kb (iC hs.vs c.args.toList) hv
 have hexec:(execOp a.eval o).run P w=.ok (.round l fn tmps asg body) w:=by
  simp only[execOp,ho];rw[af (a:={ target:=.fn (.yield l) #[],args:=#[]++c.args.map a.eval }) (w':=w) (by simp only[resolve,hcal,ip11];rfl)];simp only[invoke];have:#[]++c.args.map a.eval++#[]=(c.args.toList.map a.eval).toArray:=by apply Array.toList_inj.1;simp
  first
   |(rw[this];exact hrun)
   | (have e2:#[]++c.args.map a.eval=(c.args.toList.map a.eval).toArray:=by
       apply Array.toList_inj.1;simp
      rw[e2];exact hrun)
 rw[hsem,hexec,Oper.uponIn_round];refine⟨λe=>(by rw[hF.depth]at e;cases e),hround.mono λe w' ⟨x,m',lh',he,g1,g2,g3,g4,g5⟩=>?_⟩;subst he;have hp:∀ b,IR B l rec W1 lh0 m0 m' (fl sl o.dst (.bool b)) lh' (Iv x) (a.put o.dst (.bool b)) w':=λb=>by
  refine⟨?_,by cases o.dst<;>exact hs.df,g1,hs.ext.trans g2,g3,g4⟩;rw[ae6];cases o.dst with
  |none=>exact dc g2.1 _ _ hs.vs|some d=>exact kZ d (dc g2.1 _ _ hs.vs) (by simp[AW])
 refine ih x lh' m' _ w' ?_ g5;exact hp _
theorem mW {ops:Array Oper} (hF:lC F) (hS:∀ f,(Pe f).Ok P f) (hE:∀ t∈AQ,dL P t) (hY:YS B F n P l rec W1 lh0 m0 QE) {Pg:Exit->Act->World->Prop}:∀ (os:List Oper) (xs:List o0) (k:Nat) (sl:List ak) (lh:List ar) (m:aN) (g:Option Ex) (a:Act) (w:World) (PR:List ak->List ar->Option Ex->Prop),
 (∀j,os[j]? = ops[k+j]?)->lg P AQ ops os=some xs->cP B.w0 Pe l QE xs sl lh g PR->IR B l rec W1 lh0 m0 m sl lh g a w ->
 (∀sl' lh' m' g' a' w',IR B l rec W1 lh0 m0 m' sl' lh' g' a' w'->PR sl' lh' g'->Pg .normal a' w')->wpOpsIn F n P ops Pg (List.range' k os.length) a w
 |[],xs,k,sl,lh,m,g,a,w,PR,_,hc,hv,hs,hQ=>by simp[lg,Ak]at hc;subst hc;exact hQ _ _ _ _ _ _ hs hv
 |o::os,xs,k,sl,lh,m,g,a,w,PR,hl,hc,hv,hs,hQ=>by
   have h0:ops[k]? = some o:=by simpa using(hl 0).symm
   have RO:∀j,os[j]? = ops[k+1+j]? := λj=>by have:=hl (j+1);simpa[H9,Ig 1 j] using this
   simp[lg]at hc;split at hc
   ·cases hc
   ·rename_i xs' SQ
    have ih:=λSD lh1 m1 g1 a1 w1 hv hs=>mW hF hS hE hY os xs' (k+1) SD lh1 m1 g1 a1 w1 PR RO SQ hv hs hQ;split at hc
    ·rename_i t az hy
     cases hc;simp[cP]at hv;obtain⟨rfl,SZ,hv⟩:=hv;unfold uk at hy;split at hy
     ·rename_i c hg ho
      split at hy
      ·rename_i t hcal;cases hy;simp[Dl,ID,wpOpsIn,h0];rw[Ad (by simp[Region.wanted,hg])];exact hl1 hF hY hs SZ hv ho hcal λx lh' m' a' w' M Q=>by cases x<;>exact ih _ _ _ _ _ _ Q M
      ·cases hy
     ·cases hy
    ·split at hc
     ·rename_i d want t az hy
      cases hc;simp[cP]at hv;unfold rY at hy;split at hy
      ·rename_i j nzb24 c hg ho
       split at hy
       ·rename_i t2 d2 hcal hd
        cases hy;simp[Dl,ID,wpOpsIn,h0];have Um:kq (B.at m lh w []) m sl lh a w:=⟨hs.vs,hs.df,hs.hh.rebase []⟩
        let ⟨y1,y2,y3⟩:=r9 (ops:=ops) hs.vs hd
        split at hv
        ·rename_i b hb
         have hyb:=y1 b hb;have Ra:=hs.step (JS Um hb) (jI.refl _ _);by_cases W4:b=want
         ·subst W4;obtain⟨rfl,SZ,hv⟩:=hv.1 rfl;rw[Ad (by simp[Region.wanted,hg,hyb])];exact hl1 hF hY Ra SZ hv ho hcal λx lh' m' a' w' M Q=>by cases x<;>exact ih _ _ _ _ _ _ Q M
         ·have W3:b=!want:=by cases b<;>cases want<;>simp_all
          rw[AU (by simp[Region.wanted,hg,hyb,W4])];refine⟨λf _=>hF.fn f,?_⟩;have hsr':=JS Um hb;rw[W3]at hsr';exact ih _ _ _ _ _ _ (hv.2 W3) (hs.step (hsr'.put (aN.le_refl m) (hs.hh.rebase []) o.dst (by simp[AW,aE,undef])) (jI.refl _ _))
        ·rename_i vs hb;rw[AU (by simp[Region.wanted,hg,y2 _ hb])];refine⟨λf _=>hF.fn f,?_⟩;exact ih _ _ _ _ _ _ hv (hs.step ((JS Um hb).put (aN.le_refl m) (hs.hh.rebase []) o.dst (by simp[AW,aE,undef])) (jI.refl _ _))
        ·rename_i hb;rw[AU (by simp[Region.wanted,hg,y3 _ _ hb])];refine⟨λf _=>hF.fn f,?_⟩;exact ih _ _ _ _ _ _ hv (hs.step (Um.put (aN.le_refl m) (hs.hh.rebase []) o.dst (by simp[AW,aE,undef])) (jI.refl _ _))
        ·exact hv.elim
       ·cases hy
      ·cases hy
     split at hc
     ·rename_i x hx
      cases hc;simp[cP]at hv;have iy16:∀ j,j<[o].length->[o][j]? = ops[k+j]? := λj hj=>by
       obtain rfl:j=0:=by simpa using hj
       simpa using hl 0
      have:=pX (n:=n) (ops:=ops) (B:=B.at m lh w []) (Pg:=Pg) hF (λf=>(hS f).sound) hE (List.range' (k+1) os.length) [o] [x] k sl lh m a w _ iy16 (by simp[fR,hx]) hv ⟨hs.vs,hs.df,hs.hh.rebase []⟩ (λsl' lh' m' a' w' M Q h3=>ih _ _ _ _ _ _ h3 (hs.step M Q));simpa[ID] using this
     ·cases hc
theorem hl' {ops:Array Oper} {Pg:Exit->Act->World->Prop}:∀ (f k fuel:Nat) (listed:Array Bool) (a:Act) (w:World),f<=fuel->zj ops f k listed=true->wpOpsIn F n P ops Pg (List.range' k f) a w->wpAnyIn F n P .any ops Pg fuel listed a w
 |0,k,fuel,listed,a,w,_,ht,h=>by
   have hr:Region.ready .any ops listed=[]:=by simpa[zj] using ht
   cases fuel with
   |zero=>exact⟨hr,h⟩|succ fuel=>exact⟨λ_=>h,λi hi=>by rw[hr]at hi;cases hi⟩
 |f+1,k,0,listed,a,w,hf,_,_=>by omega
 |f+1,k,fuel+1,listed,a,w,hf,ht,h=>by
   simp[zj,Ae,E4]at ht;refine⟨λe=>(by rw[ht.1]at e;cases e),λi hi=>?_⟩;rw[ht.1]at hi;obtain rfl:i=k:=by simpa using hi
   simp[ID,wpOpsIn_cons]at h;exact wpOpIn_mono (λa w h=>hl' f (i+1) fuel _ a w K ht.2 h) h
theorem R48 {n y:Nat} {QS:Array Bool} (hs:QS.size=n) (M:∀ i,i<y->QS.getD i false=true) (Q:∀ i,y<=i->QS.getD i false=false):QS=yb n y:=by
 apply Array.ext
 ·simp[yb,hs]
 ·intro i hi RI
  have e:QS.getD i false=QS[i]:=by simp[hi]
  simp[yb,List.getElem_toArray,List.getElem_map,List.getElem_range];rw[← e];by_cases hy:i<y
  ·rw[M i hy];simp[Nat.blt_eq,hy]
  ·rw[Q i K];cases hb:Nat.blt i y with|false=>rfl|true=>exact(hy (by simpa[Nat.blt_eq] using hb)).elim
theorem hjr {ops:Array Oper} (hb:Hk ops=true) {y:Nat} (hy:y<=ops.size) {QS:Array Bool} (hs:QS.size=ops.size) (hr:Region.ready .any (ops.toList.take y).toArray QS=[]):∀ i,i<y->QS.getD i false=true:=by
 intro i;induction i using Nat.strongRecOn with
 |ind i ih=>
   intro hi;apply Classical.byContradiction;intro RY;have Pj:i<ops.size:=by omega
   have hm:i∈Region.ready .any (ops.toList.take y).toArray QS:=by
    refine mem_ready.2 ⟨?_,ops[i],?_,λe he hbe=>?_⟩
    ·have:i<QS.size:=by omega
     simp[MN,Kg this,Jo]at RY ⊢;simpa using RY
    ·simp[hi,Pj]
    ·have M:=List.all_eq_true.1 hb i (by simpa using Pj)
     rw[Kg Pj]at M;have Q:=List.all_eq_true.1 M e (by simpa using he);rw[hbe]at Q;have h3:e.on<i:=by simpa[Nat.blt_eq] using Q
     exact ih e.on h3 K
   rw[hr]at hm;cases hm
theorem hnj {ops:Array Oper} (hF:lC F) (hS:∀ f,(Pe f).Ok P f) (hE:∀ t∈AQ,dL P t) {y H:Nat} {B:dN} {ds:List jq} {Ws:List (List Nat)} {xs:List jt} (hc:fR P AQ ops (ops.toList.take y)=some xs) (hd:∀ j:Nat,ds[j]?.map jq.o=xs[j]?)
 (hb:Hk ops=true) (hdep:P7 ops y=true) (hy:y<=ops.size) {PR:List ak->List ar->Prop} {Pg:Exit->Act->World->Prop} {lh0:List ar} {m0:aN} {r:Nat}
 (hQ:∀sl' lh' m' a' w' fuel,kq B m' sl' lh' a' w'->jI lh0 m0 lh' m'->PR sl' lh'->r<=fuel->wpAnyIn F n P .any ops Pg fuel (yb ops.size y) a' w') :
 ∀(fuel:Nat) (listed:Array Bool) (sl:List ak) (lh:List ar) (m:aN) (a:Act) (w:World),listed.size=ops.size->(∀i,y<=i->listed.getD i false=false)->gG ops listed->kq B m sl lh a w->jI lh0 m0 lh m->G7 B.w0 Pe (ops.toList.take y).toArray ds Ws H PR fuel listed sl lh->wpAnyIn F n P .any ops Pg (fuel+r) listed a w:=by
 intro fuel;induction fuel with
 |zero=>intro listed sl lh m a w Qu hl RE hs he h;rw[R48 Qu (hjr hb hy Qu h.1) hl];exact hQ _ _ _ _ _ _ hs he h.2 K
 |succ fuel ih=>
   intro listed sl lh m a w Qu hl RE hs he h;by_cases hr:Region.ready .any (ops.toList.take y).toArray listed=[]
   ·rw[R48 Qu (hjr hb hy Qu hr) hl];exact hQ _ _ _ _ _ _ hs he (h.1 hr) K
   ·let ⟨j,hj⟩:=List.exists_mem_of_ne_nil _ hr
    let ⟨pD,oj,VA,iy17⟩:=mem_ready.1 hj
    have hget:∀ i o,(ops.toList.take y).toArray[i]? = some o->i<y/\ops[i]? = some o:=λi o hi=>by
     simp only[Ji,E5]at hi;split at hi
     ·rename_i Pj;exact⟨Pj,by simpa using hi⟩
     ·cases hi
    let ⟨iy20,hoj'⟩:=hget j oj VA
    have iy18:listed.getD j false=false:=by
     have:j<listed.size:=by rw[Qu];exact(Array.getElem?_eq_some_iff.1 hoj').1
     simp[MN,Kg this,Jo]at pD ⊢;exact pD
    have RV:∀ i,i∈Region.ready .any ops listed->i<y/\i∈Region.ready .any (ops.toList.take y).toArray listed:=λi hi=>by
     let ⟨iu12,oi,TD,pB⟩:=mem_ready.1 hi
     unfold P7 at hdep;simp only[Ae]at hdep;have Pj:i<y:=by
      apply Classical.byContradiction;intro Sf;by_cases e:i=y
      ·subst e;have:=fO RE ops.size i oi TD pB (List.all_eq_true.1 hdep.1 j (by simpa using iy20));rw[iy18]at this;cases this
      ·have M:=List.all_eq_true.1 hdep.2 i (by simpa using(Array.getElem?_eq_some_iff.1 TD).1)
       have Q:Nat.ble i y=false:=by
        cases hb:Nat.ble i y with
        |false=>rfl|true=>have:=Bf hb;omega
       rw[Q,Bool.false_or]at M;have:=fO RE ops.size i oi TD pB M;rw[hl y (Ah _)]at this;cases this
     exact⟨Pj,mem_ready.2 ⟨iu12,oi,by simpa[E5,Pj] using TD,pB⟩⟩
    rw[show fuel+1+r=(fuel+r)+1 by omega];refine⟨λe=>?_,λi hi=>?_⟩
    ·have hm:j∈Region.ready .any ops listed:=mem_ready.2 ⟨pD,oj,hoj',iy17⟩;have e':Region.ready .any ops listed=[]:=e;rw[e']at hm;cases hm
    ·have RI:i∈Region.ready .any ops listed:=hi
     let ⟨iy13,pC⟩:=RV i RI
     have Q:=h.2 i pC
     let ⟨_,o,ho,_⟩:=mem_ready.1 RI
     let ⟨x,hx,Ud⟩:=mr (ops.toList.take y) xs i o hc (by simpa[E5,iy13] using ho)
     have Rr:=hd i;rw[hx]at Rr;simp[Bb]at Rr
     let ⟨d,T8,T9⟩:=Rr
     unfold D6 at Q;simp[T8]at Q;rw[T9]at Q;exact F63 hF hS hE ho Ud hs Q λsl' lh' m' a' w' h3 h4 h5=>ih _ sl' lh' m' a' w' (by simpa using Qu) (λk hk=>by rw[getD_set_ne false K];exact hl k hk) (fV RE RI) h3 (he.trans h4) h5
theorem im10 {ops:Array Oper} (hF:lC F) (hS:∀ f,(Pe f).Ok P f) (hE:∀ t∈AQ,dL P t) (hY:YS B F n P l rec W1 lh0 m0 QE) {y id:Nat} {ds:List jq} {AS:List o0} (hc:uJ P AQ ops y=some (ds,AS)) {sl:List ak} {lh:List ar} {m:aN} {g:Option Ex} {a:Act} {w:World} {Pg:IQ}
 (hs:IR B l rec W1 lh0 m0 m sl lh g a w) (hv:ow B.w0 Pe ds sl lh λsl lh=>cP B.w0 Pe l QE AS sl lh g (Pg .normal)):(Code.region id ops true).wpIn F n P (QI B l rec W1 lh0 m0 Pg) a w:=by
 unfold uJ at hc;split at hc
 ·rename_i xs its' SQ hits
  split at hc
  ·rename_i hcond
   cases hc;simp only[Ae,E4]at hcond
   let ⟨⟨⟨⟨⟨⟨⟨⟨M,Q⟩,h3⟩,h4⟩,h5⟩,h6⟩,h7⟩,h8⟩,h9⟩:=hcond
   have h5':=Bf h5;have hA:(ops.toList.take y).toArray.size=y:=by simp;omega
   let ⟨hw,ht⟩:=hv
   have TY:LQ (iO (ops.toList.take y).toArray xs (cS xs 0) xs 0) (mA B.w0 lh sl lh.length (iO (ops.toList.take y).toArray xs (cS xs 0) xs 0)):=λi d hd=>by
    refine⟨λY7=>?_,?_⟩
    ·unfold Cl;rw[qv,hd];have:=List.all_eq_true.1 h6 d (Is hd);simp[Y7]at this;simp[this,ve]
    ·have:=pp (ds:=iO (ops.toList.take y).toArray xs (cS xs 0) xs 0) (iO (ops.toList.take y).toArray xs (cS xs 0) xs 0) 0 (λj=>by simp) hw i d (by simpa using hd);simpa using this
   generalize mA B.w0 lh sl lh.length (iO (ops.toList.take y).toArray xs (cS xs 0) xs 0)=Ws at hw ht TY;refine wpIn_region_any M ?_;have RE:∀os:Array Oper,gG os (Array.replicate ops.size false):=λos k o hk=>by simp[Je]at hk;split at hk<;>simp at hk
   have hany:=oy hS TY Q (h4.trans hA.symm) (iO (ops.toList.take y).toArray xs (cS xs 0) xs 0) 0 _ sl _ (λj=>by simp) h3 (RE _) ht;have hext:jI lh m (lh++List.replicate (RF (iO (ops.toList.take y).toArray xs (cS xs 0) xs 0)) .dead) m:=⟨aN.le_refl m,λk hk=>⟨by rw[BF (List.getElem?_eq_some_iff.1 hk).1];exact hk,rfl⟩⟩;rw[h4]at hany;have:=hnj (n:=n) (r:=ops.size-y) (B:=B.at m lh w []) (Pg:=QI B l rec W1 lh0 m0 Pg) hF hS hE SQ (y6 (ops.toList.take y).toArray xs (cS xs 0) xs 0) h7 h8 h5' (lh0:=lh) (m0:=m) (λsl' lh' m' a' w' fuel g1 g2 g3 g4=>by refine hl' (ops.size-y) y fuel _ a' w' g4 h9 ?_;have:=mW (n:=n) (ops:=ops) (Pg:=QI B l rec W1 lh0 m0 Pg) hF hS hE hY (ops.toList.drop y) AS y sl' lh' m' g a' w' (Pg .normal) (λj=>by simp) hits g3 (hs.step g1 g2) (λsl' lh' m' g' a' w' M h3=>⟨.normal,sl',lh',m',g',rfl,M,h3⟩);simpa using this) y (Array.replicate ops.size false) sl _ m a { w with drawn:=w.drawn+1 } au (λi _=>by simp[Je];split<;>rfl) (RE ops) ⟨hs.vs,hs.df,((hs.hh.rebase []).deads _).drew _⟩ hext hany;rwa [show y+(ops.size-y)=ops.size by omega]at this
  ·cases hc
 ·cases hc
theorem hor (hF:lC F) (hS:∀ f,(Pe f).Ok P f) (hE:∀ t∈AQ,dL P t) (hY:YS B F n P l rec W1 lh0 m0 QE):∀ (c:Code) (s:jB) (sl:List ak) (lh:List ar) (m:aN) (g:Option Ex) (a:Act) (w:World) (Pg:IQ),
 kF P AQ c=some s->IR B l rec W1 lh0 m0 m sl lh g a w->lW B.w0 Pe l QE s sl lh g Pg->c.wpIn F n P (QI B l rec W1 lh0 m0 Pg) a w:=by
 intro c;induction c with
 |skip=>intro s sl lh m g a w Pg hc hs hv;cases hc;exact wpIn_skip ⟨.normal,sl,lh,m,g,rfl,hs,hv⟩|label t=>intro s sl lh m g a w Pg hc hs hv;cases hc;exact wpIn_label ⟨.normal,sl,lh,m,g,rfl,hs,hv⟩
 |region id ops dr=>
   intro s sl lh m g a w Pg hc hs hv;cases dr with
   |false=>simp[kF,Bb]at hc;obtain⟨xs,SQ,rfl⟩:=hc;refine wpIn_region ?_;have:=mW (n:=n) (ops:=ops) (Pg:=QI B l rec W1 lh0 m0 Pg) hF hS hE hY ops.toList xs 0 sl lh m g a w (Pg .normal) au SQ hv hs (λsl' lh' m' g' a' w' M h3=>⟨.normal,sl',lh',m',g',rfl,M,h3⟩);rwa [Kl,← Iw]
   |true=>
     simp[kF]at hc;split at hc
     ·simp[Bb]at hc;obtain⟨ds,WP,rfl⟩:=hc;exact hiy (B:=B.at m lh w []) hF hS hE WP ⟨hs.vs,hs.df,hs.hh.rebase []⟩ hv (λsl' lh' m' a' w' M Q h3=>⟨.normal,sl',lh',m',g,rfl,hs.step M Q,h3⟩)
     ·simp only[Bb]at hc;obtain⟨⟨ds,AS⟩,WP,rfl⟩:=hc;exact im10 hF hS hE hY WP hs hv
 |seq x y ihx ihy=>
   intro s sl lh m g a w Pg hc hs hv;simp[kF]at hc;split at hc
   ·rename_i sx sy hx hy
    cases hc;refine wpIn_seq (wpIn_mono (ihx sx sl lh m g a w _ hx hs hv) λe a' w' hq=>?_);obtain⟨ex,sl',lh',m',g',rfl,M,h3⟩:=hq;cases ex with
    |normal=>exact ihy sy sl' lh' m' g' a' w' Pg hy M h3|exit i=>exact⟨.exit i,sl',lh',m',g',rfl,M,h3⟩|ret=>exact⟨.ret,sl',lh',m',g',rfl,M,h3⟩
   ·cases hc
 |cond c x y ihx ihy=>
   intro s sl lh m g a w Pg hc hs hv;simp[kF]at hc;split at hc
   ·rename_i sx sy hx hy
    cases hc;simp[lW]at hv;have ha:=bd hs.vs c;split at hv
    ·rename_i t ht;rw[ht]at ha;exact wpIn_cond_split (jD ha) (λe=>ihx sx sl lh m g a w Pg hx hs (hv.1 e)) (λe=>ihy sy sl lh m g a w Pg hy hs (hv.2 e))
    ·exact hv.elim
   ·cases hc
 |block id x ih=>
   intro s sl lh m g a w Pg hc hs hv;simp[kF,Bb]at hc;obtain⟨sx,hx,rfl⟩:=hc;refine wpIn_block (wpIn_mono (ih sx sl lh m g a w _ hx hs hv) λe a' w' hq=>?_);obtain⟨ex,sl',lh',m',g',rfl,M,h3⟩:=hq;cases ex with
   |normal=>exact⟨.normal,sl',lh',m',g',rfl,M,h3⟩
   |exit i=>
     simp[Ug,Exit.inBlock];simp[ye]at h3;split at h3
     ·rename_i e;rw[Ad e];exact⟨.normal,sl',lh',m',g',rfl,M,h3⟩
     ·rename_i e;rw[AU e];exact⟨.exit i,sl',lh',m',g',rfl,M,h3⟩
   |ret=>exact⟨.ret,sl',lh',m',g',rfl,M,h3⟩
 |loop x ih=>
   intro s sl lh m g a w Pg hc hs hv;simp[kF,Bb]at hc;obtain⟨sx,hx,rfl⟩:=hc;simp[lW]at hv;obtain⟨ι,shs,shl,shg,μ,i0,rfl,rfl,rfl,hr⟩:=hv;refine hh2 (λk a w=>∃i m',IR B l rec W1 lh0 m0 m' (shs i) (shl i) (shg i) a w/\μ i=k) ⟨_,i0,m,hs,rfl⟩ λk a w hI=>?_;obtain⟨i,m',hi,rfl⟩:=hI;refine wpIn_mono (ih sx (shs i) (shl i) m' (shg i) a w _ hx hi (hr i)) λe a' w' hq=>?_;obtain⟨ex,sl',lh',m2,g',rfl,M,h3⟩:=hq;cases ex with
   |normal=>obtain⟨i',rfl,rfl,rfl,Pj⟩:=h3;exact⟨_,Pj,i',m2,M,rfl⟩
   |exit j=>exact⟨.exit j,sl',lh',m2,g',rfl,M,h3⟩|ret=>exact⟨.ret,sl',lh',m2,g',rfl,M,h3⟩
 |exit id=>intro s sl lh m g a w Pg hc hs hv;cases hc;exact wpIn_exit ⟨.exit id,sl,lh,m,g,rfl,hs,hv⟩|ret=>intro s sl lh m g a w Pg hc hs hv;cases hc;exact wpIn_ret ⟨.ret,sl,lh,m,g,rfl,hs,hv⟩
 |scope x ih=>intro s sl lh m g a w Pg hc hs hv;simp[kF,Bb]at hc;obtain⟨sx,hx,rfl⟩:=hc;exact hgx (λt a w ⟨ex,_,_,_,_,h,_⟩=>by cases ex<;>cases h) (ih sx sl lh m g a w Pg hx hs hv)
 |_=>intro s sl lh m g a w Pg hc;cases hc
end it
def Ia (tmps:Array Value):ResultVar->Sem Value
 |.tmp t=>pure (tmps.getD t undef)|.cell b t=>do loadVar t (← asAddr (tmps.getD b undef))
def uQ:List Value->Value
 |[v]=>v|vs=>.tuple vs.toArray
theorem hj1 {fn:Func} {tmps:Array Value} {w:World} {vs:List Value} (h:(fn.results.toList.mapM (Ia tmps)).run P w=.ok vs w):(results fn tmps).run P w=.ok (uQ vs) w:=by
 have e0:results fn tmps=(do let vs ← fn.results.mapM (Ia tmps);pure (if h:vs.size=1 then vs[0] else .tuple vs)):=by unfold results;congr 2
 have Q:(fn.results.mapM (Ia tmps)).run P w=.ok vs.toArray w:=by rw[Array.mapM_eq_mapM_toList];show(do pure (← fn.results.toList.mapM (Ia tmps)).toArray:Sem (Array Value)).run P w=_;rw[af h];rfl
 rw[e0,af Q]
 match vs with
 |[]=>rfl|[v]=>rfl|v::u::l=>simp[uQ]
def mD (P : Program) (AQ : List TypeId) (AS : List jc) : Prop := ∀ it ∈ AS, ∃ fn, P.funcs[it.f]? = some fn /\ (fn.name == "runtime.NumGoroutine") = false /\ sF P AQ fn = some (it.ntmps, it.body)
theorem qc:∀ {AS:List jc} {f:FuncId} {it:jc},Eb AS f=some it->it∈AS/\it.f=f
 |[],_,_,h=>by cases h
 |x::l,f,it,h=>by
   simp[Eb]at h;split at h
   ·rename_i e;cases h;exact⟨Eh,e.symm⟩
   ·exact⟨Do _ (qc h).1,(qc h).2⟩
theorem AC {m:aN}:∀ (ps:List Nat) (sl xs:List ak) (us:Array Value) (vs:List Value),aE m sl us.toList->aE m xs vs->xs.length=ps.length ->
 aE m (mw sl ps xs) ((ps.zip vs).foldl (λt (p,v)=>t.setIfInBounds p v) us).toList
 |[],sl,xs,us,vs,h,_,_=>by cases xs<;>simpa[mw] using h
 |p::ps,sl,[],us,vs,_,_,hl=>by cases hl
 |p::ps,sl,x::xs,us,vs,h,hx,hl=>by simp[aE]at hx;obtain⟨u,us',rfl,M,Q⟩:=hx;simp[mw,List.zip_cons_cons,List.foldl_cons];exact AC ps _ xs _ us' (by rw[MQ];exact kZ p h M) Q (by simpa using hl)
theorem SR.step {m m':aN} {sl sl':List ak} {lh lh':List ar} {a a':Act} {w w':World} (h:SR B m sl lh a w) (hs:kq (B.at m lh w a.defers) m' sl' lh' a' w'):SR B m' sl' lh' a' w'/\KeepsOthers w w':=by
 let ⟨M,Q⟩:=h.2.2.unbase hs.2.2
 exact⟨⟨hs.1,by rw[hs.2.1];exact pL Q h.2.1,M⟩,Q⟩
def wF (F:Fence) (w:World):Prop:=F.round=none∨∃l0 r0,F.round=some l0/\w.heap[l0]? = some (.loop r0)
theorem wF.keeps {F:Fence} {w w':World} (h:wF F w) (hk:KeepsOthers w w'):wF F w' :=
 h.imp_right λ⟨l0,r0,M,Q⟩=>⟨l0,r0,M,hk.same _ _ Q rfl⟩
theorem hnd {AS:List jc} (hS:∀ f,(Pe f).Ok P f) (hE:∀ t∈AQ,dL P t) (hI:mD P AQ AS):∀ (c:Code) (F:Fence) (n nb:Nat) (B:dN) (s:hU) (sl:List ak) (lh:List ar) (m:aN) (a:Act) (w:World) (Pg:Ex->List ak->List ar->Prop),
 lC F->wF F w->dF P AQ AS c=some s->SR B m sl lh a w->cK B.w0 Pe nb s sl lh Pg->c.wpIn F n P (QC B nb lh m w Pg) a w:=by
 have hSS:∀f,(Pe f).Sound P f:=λf=>(hS f).sound;intro c;induction c with
 |skip=>intro F n nb B s sl lh m a w Pg hF hr hc hs hv;cases hc;exact wpIn_skip ⟨.normal,sl,lh,m,rfl,hs,o4.refl _ _ _,.refl _,hv⟩|label l=>intro F n nb B s sl lh m a w Pg hF hr hc hs hv;cases hc;exact wpIn_label ⟨.normal,sl,lh,m,rfl,hs,o4.refl _ _ _,.refl _,hv⟩
 |region id ops dr=>
   intro F n nb B s sl lh m a w Pg hF hr hc hs hv;cases dr with
   |false=>simp only[dF,Bb]at hc;obtain⟨xs,SQ,rfl⟩:=hc;refine wpIn_region ?_;have:=pX (n:=n) (ops:=ops) (B:=B.at m lh w a.defers) (Pg:=QC B nb lh m w Pg) hF hSS hE [] ops.toList xs 0 sl lh m a w (Pg .normal) au SQ hv ⟨hs.1,rfl,hs.2.2.rebase _⟩ (λsl' lh' m' a' w' M Q h3=>⟨.normal,sl',lh',m',rfl,(hs.step M).1,Q.toN nb,(hs.step M).2,h3⟩);rw[Jc]at this;rwa [Kl,← Iw]
   |true=>
     simp only[dF]at hc;split at hc
     ·rename_i t ht;cases hc;exact hnp (B:=B.at m lh w a.defers) hF hS hE ht ⟨hs.1,rfl,hs.2.2.rebase _⟩ hv (λsl' lh' m' a' w' M Q h3=>⟨.normal,sl',lh',m',rfl,(hs.step M).1,Q.toN nb,(hs.step M).2,h3⟩)
     ·split at hc
      ·rename_i t ht;cases hc;exact ho2 (B:=B.at m lh w a.defers) hF hS hE ht ⟨hs.1,rfl,hs.2.2.rebase _⟩ hv (λsl' lh' m' a' w' M Q h3=>⟨.normal,sl',lh',m',rfl,(hs.step M).1,Q.toN nb,(hs.step M).2,h3⟩)
      simp only[Bb]at hc;obtain⟨ds,WP,rfl⟩:=hc;exact hiy (B:=B.at m lh w a.defers) hF hS hE WP ⟨hs.1,rfl,hs.2.2.rebase _⟩ hv (λsl' lh' m' a' w' M Q h3=>⟨.normal,sl',lh',m',rfl,(hs.step M).1,Q.toN nb,(hs.step M).2,h3⟩)
 |seq x y ihx ihy=>
   intro F n nb B s sl lh m a w Pg hF hr hc hs hv;simp only[dF]at hc;split at hc
   ·rename_i sx sy hx hy
    cases hc;refine wpIn_seq (wpIn_mono (ihx F n nb B sx sl lh m a w _ hF hr hx hs hv) λe a' w' hq=>?_);obtain⟨ex,sl',lh',m',rfl,M,Q,hk,h3⟩:=hq;cases ex with
    |normal=>exact wpIn_mono (ihy F n nb B sy sl' lh' m' a' w' Pg hF (hr.keeps hk) hy M h3) λe a'' w''=>QC.of Q hk λ_ _ _ h=>h
    |exit i=>exact⟨.exit i,sl',lh',m',rfl,M,Q,hk,h3⟩|ret=>exact⟨.ret,sl',lh',m',rfl,M,Q,hk,h3⟩
   ·cases hc
 |cond c x y ihx ihy=>
   intro F n nb B s sl lh m a w Pg hF hr hc hs hv;simp only[dF]at hc;split at hc
   ·rename_i sx sy hx hy
    cases hc;simp only[cK]at hv;have ha:=bd hs.1 c;split at hv
    ·rename_i t ht;rw[ht]at ha;exact wpIn_cond_split (jD ha) (λe=>ihx F n nb B sx sl lh m a w Pg hF hr hx hs (hv.1 e)) (λe=>ihy F n nb B sy sl lh m a w Pg hF hr hy hs (hv.2 e))
    ·exact hv.elim
   ·cases hc
 |block id x ih=>
   intro F n nb B s sl lh m a w Pg hF hr hc hs hv;simp only[dF,Bb]at hc;obtain⟨sx,hx,rfl⟩:=hc;refine wpIn_block (wpIn_mono (ih F n nb B sx sl lh m a w _ hF hr hx hs hv) λe a' w' hq=>?_);obtain⟨ex,sl',lh',m',rfl,M,Q,hk,h3⟩:=hq;cases ex with
   |normal=>exact⟨.normal,sl',lh',m',rfl,M,Q,hk,h3⟩
   |exit i=>
     simp only[Ug,Exit.inBlock];simp only[xJ]at h3;split at h3
     ·rename_i e;rw[Ad e];exact⟨.normal,sl',lh',m',rfl,M,Q,hk,h3⟩
     ·rename_i e;rw[AU e];exact⟨.exit i,sl',lh',m',rfl,M,Q,hk,h3⟩
   |ret=>exact⟨.ret,sl',lh',m',rfl,M,Q,hk,h3⟩
 |loop x ih=>
   intro F n nb B s sl lh m a w Pg hF hr hc hs hv;simp only[dF,Bb]at hc;obtain⟨sx,hx,rfl⟩:=hc;simp only[cK]at hv;obtain⟨ι,shs,shl,μ,i0,h0,no10⟩:=hv;have sub:∀{m:aN} {sl SD:List ak} {lh lh1:List ar} {a:Act} {w:World},Sub nb sl lh SD lh1->SR B m sl lh a w->∃m1,SR B m1 SD lh1 a w/\o4 nb lh m lh1 m1:=λ{m sl SD lh lh1 a w} M Q=>by obtain⟨m1,g1,g2⟩:=M.rel (B:={ B with ds:=a.defers }) (a:=a) (w:=w) (m:=m) ⟨Q.1,rfl,Q.2.2.withDs _⟩;exact⟨m1,⟨g1.1,Q.2.1,g1.2.2.noDs⟩,g2⟩
   obtain⟨m1,TW,nH⟩:=sub h0 hs;refine hh2 (λk a w'=>∃i m',SR B m' (shs i) (shl i) a w'/\o4 nb lh m (shl i) m'/\KeepsOthers w w'/\μ i=k) ⟨_,i0,m1,TW,nH,.refl _,rfl⟩ λk a w1 hI=>?_;obtain⟨i,m',hi,he,hk,rfl⟩:=hI;refine wpIn_mono (ih F n nb B sx (shs i) (shl i) m' a w1 _ hF (hr.keeps hk) hx hi (no10 i)) λe a' w' hq=>?_;obtain⟨ex,sl',lh',m2,rfl,M,Q,WS,h3⟩:=hq;cases ex with
   |normal=>obtain⟨i',hsub,Pj⟩:=h3;obtain⟨m3,X6,io17⟩:=sub hsub M;exact⟨_,Pj,i',m3,X6,(he.trans Q).trans io17,hk.trans WS,rfl⟩
   |exit j=>exact⟨.exit j,sl',lh',m2,rfl,M,he.trans Q,hk.trans WS,h3⟩|ret=>exact⟨.ret,sl',lh',m2,rfl,M,he.trans Q,hk.trans WS,h3⟩
 |exit id=>intro F n nb B s sl lh m a w Pg hF hr hc hs hv;cases hc;exact wpIn_exit ⟨.exit id,sl,lh,m,rfl,hs,o4.refl _ _ _,.refl _,hv⟩|ret=>intro F n nb B s sl lh m a w Pg hF hr hc hs hv;cases hc;exact wpIn_ret ⟨.ret,sl,lh,m,rfl,hs,o4.refl _ _ _,.refl _,hv⟩
 |scope x ih=>intro F n nb B s sl lh m a w Pg hF hr hc hs hv;simp only[dF,Bb]at hc;obtain⟨sx,hx,rfl⟩:=hc;exact hgx (λl a w ⟨ex,_,_,_,h,_⟩=>by cases ex<;>cases h) (ih F n nb B sx sl lh m a w Pg hF hr hx hs hv)
 |rangeFunc gop ps asg body iha ihb=>
   intro F n nb B s sl lh m a w Pg hF hr hc hs hv;simp only[dF]at hc;split at hc
   ·rename_i yaq yar im14 io12
    ·cases hc
     simp only[cK]at hv;have hg:=bd hs.1 gop;split at hv
     ·rename_i f ys oY
      rw[oY]at hg;simp only[AW,aE]at hg;obtain⟨us,lb,hg,Sl,YF⟩:=hg;obtain rfl:us=#[]:=by apply Array.toList_inj.1;simpa using Sl
      split at hv
      ·rename_i it hit
       obtain⟨hmem,rfl⟩:=qc hit;obtain⟨fn,hf,Y6,Xs⟩:=hI it hmem;unfold sF at Xs;split at Xs
       ·rename_i _ _ cb hbody hres
        simp only[Bb,Prod.mk.injEq]at Xs;obtain⟨nzb19,no15,iza0,W7⟩:=Xs;subst W7;refine wpIn_rangeFunc ?_;intro WK hfn0
        let F0:Fence:={ F with round:=none }
        have hF0:lC F0:=⟨hF.fn,hF.depth,hF.alive⟩;obtain⟨l,mark,D0,rec,W1,hrec,henter,hL1,n19,hH1,hlw,hmark⟩:∃ (l:Nat) (mark:List Deferred) (D0:Nat) (rec:LoopState->Option Code->Loop) (W1:World),rec=(λst pe=>{ state:=st,pending:=pe,fn:=WK,tmps:=a.tmps,params:=ps,assign:=asg,body:=body,defers:=D0 })/\(Instr.enterLoop WK a.tmps ps asg body F.round).run P w=.ok (l,mark) W1/\W1.heap[l]? = some (.loop (rec .ready none))/\KeepsOthers w W1/\bk B m lh W1/\w.heap.size<=l/\(∀ w'',KB l W1 w''->KeepsOthers w w''->kE B (mark++a.defers) w''):=by
         rcases hr with WZ|⟨l0,r0,WZ,X5⟩
         ·refine ⟨w.heap.size+1,[{ target:=.collected w.heap.size,args:=#[] }],w.heap.size,_,(w.alloc (.deferred (some []))).alloc (.loop { state:=.ready,pending:=none,fn:=WK,tmps:=a.tmps,params:=ps,assign:=asg,body:=body,defers:=w.heap.size }),rfl,?_,?_,(KeepsOthers.alloc _ _).trans (KeepsOthers.alloc _ _),(hs.2.2.junk _).junk _,K,?_⟩
          ·rw[WZ];exact run_enterLoop_outer _ _ _ _ _
          ·have:=World.alloc_heap_new (w.alloc (.deferred (some []))) (.loop { state:=.ready,pending:=none,fn:=WK,tmps:=a.tmps,params:=ps,assign:=asg,body:=body,defers:=w.heap.size });rwa [World.size_alloc]at this
          ·intro w'' Wz hk;have hK1:=(KeepsOthers.alloc (w.alloc (.deferred (some []))) (.loop { state:=.ready,pending:=none,fn:=WK,tmps:=a.tmps,params:=ps,assign:=asg,body:=body,defers:=w.heap.size })).same _ _ (World.alloc_heap_new w (.deferred (some []))) rfl;refine⟨_,rfl,Wz.same _ _ K hK1 rfl,⟨hs.2.2.fsize,hs.2.2.size⟩,hs.2.1.old (λo ho=>?_),pL hk hs.2.1⟩;have:=(Array.getElem?_eq_some_iff.1 ho).1;omega
         ·refine⟨w.heap.size,[],r0.defers,_,w.alloc (.loop { state:=.ready,pending:=none,fn:=WK,tmps:=a.tmps,params:=ps,assign:=asg,body:=body,defers:=r0.defers }),rfl,?_,World.alloc_heap_new _ _,KeepsOthers.alloc _ _,hs.2.2.junk _,Ah _,λw'' _ hk=>pL hk hs.2.1⟩;rw[WZ];exact run_enterLoop_inner X5 _ _ _ _ _
        have qX:B.w0.heap.size<=l:=E0 hs.2.2.size hlw;have hlef:B.wf.heap.size<=l:=E0 hs.2.2.fsize hlw
        refine ⟨l,mark,W1,{ target:=.fn (.func it.f) lb,args:=#[.func (.yield l) #[] #[]] },W1,it.f,
         #[.func (.yield l) #[] #[]]++lb,W1,henter,?_,λf' _=>hF.fn f',?_,(λe=>by rw[hF.depth]at e;cases e),?_⟩
        ·simp only[resolve,hg];simp[go_sem]
        ·simp only[invoke,callFunc];rw[af (a:=P) (w':=W1) rfl,hf];simp only[Y6,hbody,Option.isNone_some,Dy,Da];rfl
        ·-- THE ITERATOR
         have hY:YS B F0 (n-1) P l rec W1 lh m (λxs lh PR=>xs.length=ps.toList.length/\cK B.w0 Pe lh.length yaq (mw sl ps.toList xs) lh (v6 (λsl lh'=>cK B.w0 Pe lh.length yar sl lh' λx _ lh=>PR x lh) λ_ _ _=>False)):=by
          intro m' lh' w' args vs PR hh he sa Wz Qh hy;obtain⟨hlen,hy⟩:=hy;refine⟨WK,_,asg,body,by have:=run_yield (P:=P) (args:=vs.toArray) sa (by rw[hrec];have:=c9 Qh;simp;simp at hlen;omega);rw[hrec]at this;exact this,?_⟩;refine roundIn_of_wpIn hfn0 ?_;have Um:SR B m' (mw sl ps.toList args) lh' { tmps:=(ps.zip vs.toArray).foldl (λt (p,v)=>t.setIfInBounds p v) a.tmps,defers:=[] } w':=by refine⟨?_,trivial,hh⟩;have:=AC ps.toList sl args a.tmps vs (dc he.1 _ _ hs.1) Qh hlen;rw[← Array.foldl_toList,Array.toList_zip];simpa using this
          have hFr:lC (F0.inRound l):=⟨hF.fn,hF.depth,hF.alive⟩;refine wpIn_mono (iha (F0.inRound l) (n-1-1) lh'.length B yaq _ lh' m' _ w' _ hFr (.inr ⟨l,_,rfl,sa⟩) im14 Um hy) λe a1 w1 hq=>?_;obtain⟨ex,SD,lh1,m1,rfl,M,Q,W6,h3⟩:=hq;cases ex with
          |normal=>
            have WY:w1.heap[l]? = some (.loop (rec .ready none)):=W6.same _ _ sa rfl;refine⟨_,run_beginRound WY (by rw[hrec]),?_⟩;have Va:=M.2.2.putObj WY rfl hlef qX (.loop { rec .ready none with state:=.busy });have hkb1:=(Wz.keeps W6).put (.loop { rec .ready none with state:=.busy });have rh:kE B a1.defers (w1.putObj (l) (.loop { rec .ready none with state:=.busy })):=M.2.1.keeps λAI o hD=>(World.putObj_heap_other (λe=>by subst e;rw[WY]at hD;cases hD)).trans hD;have hlt1:l<w1.heap.size:=(Array.getElem?_eq_some_iff.1 WY).1;have hr2:(w1.putObj (l) (.loop { rec .ready none with state:=.busy })).heap[l]? = some (.loop { rec .ready none with state:=.busy }):=World.putObj_heap_same hlt1;refine wpIn_mono (ihb (F0.inRound l) (n-1-1) lh'.length B yar SD lh1 m1 a1 _ _ hFr (.inr ⟨l,_,rfl,hr2⟩) io12 ⟨M.1,rh,Va⟩ h3) λe a2 w2 hq=>?_;obtain⟨ex,Sc,lh2,m2,rfl,k1,k2,WS,k3⟩:=hq;have sL:=WS.same _ _ hr2 rfl;have hend:∀jump:Option Code,(Instr.endRound (l) jump).run P w2=.ok (.bool jump.isNone) (w2.putObj (l) (.loop (rec (if jump.isNone then .ready else .done) jump))):=λjump=>by have:=run_endRound (P:=P) jump sL;rw[hrec]at this ⊢;exact this
            have hlt3:l<w2.heap.size:=(Array.getElem?_eq_some_iff.1 sL).1;have fin:∀ x,∃ x' m'' lh'',Ending.returned (.bool (Iv x).isNone)=.returned (.bool (Iv x').isNone)/\bk B m'' lh'' (w2.putObj (l) (.loop (rec (if(Iv x).isNone then .ready else .done) ((Iv x).map IS))))/\jI lh' m' lh'' m''/\JW (l) rec (Iv x') (w2.putObj (l) (.loop (rec (if(Iv x).isNone then .ready else .done) ((Iv x).map IS))))/\KB (l) W1 (w2.putObj (l) (.loop (rec (if(Iv x).isNone then .ready else .done) ((Iv x).map IS))))/\(PR x lh2->PR x' lh''):=λx=>
             ⟨x,m2,lh2,rfl,k1.2.2.putObj sL rfl hlef qX _,aeN hh (Q.trans k2),World.putObj_heap_same hlt3,(hkb1.keeps WS).put _,id⟩
            cases ex with
            |normal=>obtain⟨x',m'',lh'',e1,e2,e3,e4,e5,e6⟩:=fin .normal;exact⟨_,_,hend none,x',m'',lh'',e1,e2,e3,e4,e5,e6 k3⟩|exit i=>obtain⟨x',m'',lh'',e1,e2,e3,e4,e5,e6⟩:=fin (.exit i);exact⟨_,_,hend (some (.exit i)),x',m'',lh'',e1,e2,e3,e4,e5,e6 k3⟩|ret=>obtain⟨x',m'',lh'',e1,e2,e3,e4,e5,e6⟩:=fin .ret;exact⟨_,_,hend (some .ret),x',m'',lh'',e1,e2,e3,e4,e5,e6 k3⟩
          |exit i=>exact h3.elim|ret=>exact h3.elim
         have pC:IR B (l) rec W1 lh m m (kw (l)::ys++List.replicate (it.ntmps-(ys.length+1)) .any) lh none { tmps:=(#[Value.func (.yield (l)) #[] #[]]++lb)++Array.replicate (fn.ntmps-(#[Value.func (.yield (l)) #[] #[]]++lb).size) undef,defers:=[] } W1:=by
          refine⟨?_,rfl,hH1,jI.refl _ _,hL1,KB.refl _ _⟩;have hl:=c9 YF;simp only[KW,Array.toList_replicate,Array.size_append];refine Fy ?_ ?_
          ·simp only[aE];exact⟨_,_,rfl,by simp only[kw,AW],YF⟩
          ·have e:fn.ntmps-(#[Value.func (.yield (l)) #[] #[]].size+lb.size)=it.ntmps-(ys.length+1):=by
            have:lb.size=ys.length:=by simpa using hl
            rw[iza0,this];simp;omega
           rw[e];exact gV _ _
         refine callsIn_of_wp (F:=F0) hf hbody (hF.fn _) (wpIn_mono (hor hF0 hS hE hY cb it.body _ lh m none _ W1 _ no15 pC (hv _)) λe a' w' hq=>?_) rfl;obtain⟨ex,sl',lh',m',g,rfl,hi,hq⟩:=hq;have hres':(results fn a'.tmps).run P w'=.ok (uQ []) w':=by refine hj1 ?_;rw[hres];rfl
         have Pj:l<w'.heap.size:=(Array.getElem?_eq_some_iff.1 hi.rc).1;have hfin:∀ x,Pg x sl lh'->∃ o,QC B nb lh m w Pg (Ug x) { a with defers:=mark++a.defers } (w'.putObj (l) o)/\o=.loop { rec (if g.isNone then .ready else .done) (g.map IS) with state:=.exhausted }:=λx hx=>by
          have hk:KeepsOthers w (w'.putObj (l) (.loop { rec (if g.isNone then .ready else .done) (g.map IS) with state:=.exhausted })):=by have Wz:=hi.kb.put (.loop { rec (if g.isNone then .ready else .done) (g.map IS) with state:=.exhausted });exact⟨E0 n19.size Wz.size,λk o hk ho=>Wz.same k o (λe=>by have:=(Array.getElem?_eq_some_iff.1 hk).1;omega) (n19.same k o hk ho) ho⟩
          refine⟨_,⟨x,sl,lh',m',rfl,⟨dc hi.ext.1 _ _ hs.1,?_,hi.hh.putObj hi.rc rfl hlef qX _⟩,hi.ext.toN nb,hk,hx⟩,rfl⟩;exact hmark _ (hi.kb.put _) hk
         have hendl:=run_endLoop (P:=P) hi.rc (by rw[hrec];cases g<;>simp);have main:ap5 Pg sl .normal sl' lh' g->rangePost F n P (l) (QC B nb lh m w Pg) { a with defers:=mark++a.defers } (.returned (uQ [])) w':=λhq=>by
          refine⟨_,_,hendl,?_⟩;cases g with
          |none=>obtain⟨o,M,rfl⟩:=hfin .normal hq;rw[hrec]at M ⊢;exact M
          |some x=>
            obtain⟨o,M,rfl⟩:=hfin x hq;rw[hrec]at M ⊢;cases x with
            |normal=>exact wpIn_skip M|exit i=>exact wpIn_exit M|ret=>exact wpIn_ret M
         cases ex with
         |normal=>exact⟨hi.df,_,hres',main hq⟩|ret=>exact⟨hi.df,_,hres',main (by cases g<;>exact hq)⟩|exit i=>exact hq.elim
       ·cases Xs
      ·exact hv.elim
     ·exact hv.elim
   ·cases hc
 |_=>intro F n nb B s sl lh m a w Pg hF hr hc;cases hc
end
end Go.Sx
namespace Go.Sx
inductive C2 where|tmp (t:Nat)|cell (t:Nat) (n:Option Nat)
structure aJ where
 ntmps:Nat
 res:List C2
 body:hU
def ox (P:Program):List ResultVar->Option (List C2)
 |[]=>some []|.tmp t::l=>(ox P l).map (.tmp t::·)
 |.cell a t::l=>match re P t,ox P l with|some n,some l=>some (.cell a n::l)|_,_=>none
def eS (P:Program) (AQ:List TypeId) (AS:List jc) (fn:Func):Option aJ :=
 match fn.body with
 |some c=>match dF P AQ AS c,ox P fn.results.toList with|some s,some r=>some ⟨fn.ntmps,r,s⟩|_,_=>none
 |none=>none
def kk (w0:World) (sl:List ak) (lh:List ar):List C2->(List ak->Prop)->Prop
 |[],PR=>PR []|.tmp t::l,PR=>kk w0 sl lh l λvs=>PR (sl.getD t .any::vs)
 |.cell t n::l,PR=>match sl.getD t .any with
   |.ptr (some p)=>match n with
     |none=>∃v,ld w0 lh p=some v/\kk w0 sl lh l λvs=>PR (v::vs)
     |some n=>∃cs,lds w0 lh p n=some cs/\kk w0 sl lh l λvs=>PR (.agg cs::vs)
   |_=>False
def sn:List ak->ak
 |[v]=>v|vs=>.tup vs
def ayf (w0:World) (res:List C2) (PR:ak->List ar->Prop):Ex->List ak->List ar->Prop
 |.normal,sl,lh=>kk w0 sl lh res λvs=>PR (sn vs) lh
 |.ret,sl,lh=>kk w0 sl lh res λvs=>PR (sn vs) lh
 |.exit _,_,_=>False
def JQ (w0:World) (Pe:FuncId->ci) (f:aJ) (args:List ak) (lh:List ar) (PR:ak->List ar->Prop):Prop :=
 cK w0 Pe lh.length f.body (args++List.replicate (f.ntmps-args.length) .any) lh (ayf w0 f.res PR)
def ML (nb:Nat) (PR:ak->List ar->Prop) (r:ak) (lh:List ar):Prop:=∃r1 lh1,Sub nb [r] lh [r1] lh1/\PR r1 lh1
mutual
theorem ayz:∀ a:ak,ren id a=a
 |.int ..=>by simp[ren]
 |.bool ..=>by simp[ren]
 |.str ..=>by simp[ren]
 |.ptr none=>by simp[ren]
 |.ptr (some (.g _))=>by simp[ren]
 |.ptr (some (.l k off))=>by simp[ren,id]
 |.slice none _ _=>by simp[ren]
 |.slice (some (.g _)) _ _=>by simp[ren]
 |.slice (some (.l k off)) _ _=>by simp[ren,id]
 |.fn f xs ys=>by simp only[ren];rw[sN xs,sN ys]
 |.agg cs=>by simp[ren];rw[sN cs]
 |.tup cs=>by simp[ren];rw[sN cs]
 |.raw _=>by simp[ren]
 |.any=>by simp[ren]
theorem sN:∀ l:List ak,yr id l=l
 |[]=>by simp[yr]
 |a::l=>by simp only[yr];rw[ayz a,sN l]
end
mutual
theorem aab {p PX:Nat->Prop} (h:∀ k,p k->PX k):∀ a:ak,l8 p a->l8 PX a
 |.int ..,_=>by simp[l8]
 |.bool ..,_=>by simp[l8]
 |.str ..,_=>by simp[l8]
 |.ptr none,_=>by simp[l8]
 |.ptr (some (.g _)),_=>by simp[l8]
 |.ptr (some (.l k off)),hp=>by simp[l8]at *;exact h k hp
 |.slice none _ _,_=>by simp[l8]
 |.slice (some (.g _)) _ _,_=>by simp[l8]
 |.slice (some (.l k off)) _ _,hp=>by simp[l8]at *;exact h k hp
 |.fn f xs ys,hp=>by simp[l8]at *;exact⟨ln h xs hp.1,ln h ys hp.2⟩
 |.agg cs,hp=>by simp[l8]at *;exact ln h cs hp
 |.tup cs,hp=>by simp[l8]at *;exact ln h cs hp
 |.raw _,_=>by simp[l8]
 |.any,_=>by simp[l8]
theorem ln {p PX:Nat->Prop} (h:∀ k,p k->PX k):∀ l:List ak,kv p l->kv PX l
 |[],_=>by simp[kv]
 |a::l,hp=>by simp[kv]at *;exact⟨aab h a hp.1,ln h l hp.2⟩
end
theorem ul {p:Nat->Prop}:∀ {l:List ak},kv p l->m7 p id l l
 |[],_=>by simp[m7]
 |a::l,h=>by simp[kv]at h;simp[m7];exact⟨.inr ⟨h.1,(ayz a).symm⟩,ul h.2⟩
mutual
theorem hob {m:aN} {p:Nat->Prop} (h:∀ k b,m k=some b->p k):∀ (a:ak) (v:Value),AW m a v->l8 p a
 |.int ..,_,_=>by simp[l8]
 |.bool ..,_,_=>by simp[l8]
 |.str ..,_,_=>by simp[l8]
 |.ptr none,_,_=>by simp[l8]
 |.ptr (some (.g _)),_,_=>by simp[l8]
 |.ptr (some (.l k off)),_,hv=>by simp[AW,ef]at hv;let ⟨_,_,b,hb,_⟩:=hv;simp[l8];exact h k b hb
 |.slice none _ _,_,_=>by simp[l8]
 |.slice (some (.g _)) _ _,_,_=>by simp[l8]
 |.slice (some (.l k off)) _ _,_,hv=>by simp[AW,ef]at hv;let ⟨_,_,b,hb,_⟩:=hv;simp[l8];exact h k b hb
 |.fn _ xs ys,_,hv=>by simp[AW]at hv;let ⟨us,vs,_,Q,h3⟩:=hv;simp[l8];exact⟨gH h xs _ Q,gH h ys _ h3⟩
 |.agg cs,_,hv=>by simp[AW]at hv;let ⟨vs,_,Q⟩:=hv;simp[l8];exact gH h cs _ Q
 |.tup cs,_,hv=>by simp[AW]at hv;let ⟨vs,_,Q⟩:=hv;simp[l8];exact gH h cs _ Q
 |.raw _,_,_=>by simp[l8]
 |.any,_,_=>by simp[l8]
theorem gH {m:aN} {p:Nat->Prop} (h:∀ k b,m k=some b->p k):∀ (l:List ak) (vs:List Value),aE m l vs->kv p l
 |[],_,_=>by simp[kv]
 |a::l,_,hv=>by simp[aE]at hv;let ⟨u,us,_,Q,h3⟩:=hv;simp[kv];exact⟨hob h a u Q,gH h l us h3⟩
end
def WF (lh:List ar):Prop:=∀(k:Nat) (cs:List ak) (ty:TypeId),lh[k]? = some (.cells cs ty)->kv (λj=>j<lh.length) cs
theorem bk.wf {B:dN} {m:aN} {lh:List ar} {w:World} (h:bk B m lh w):WF lh:=λk cs ty hk=>by
 let ⟨b,vs,_,Qh,_⟩:=h.loc k cs ty hk
 exact gH (λj b hb=>Classical.byContradiction λhn=>by rw[h.dom j K]at hb;cases hb) cs _ Qh
section
variable {P:Program} {Pe:FuncId->ci} {AQ:List TypeId}
theorem mM {B:dN} {m:aN} {sl:List ak} {lh:List ar} {a:Act} {w:World} (hs:SR B m sl lh a w):∀ (rs:List ResultVar) (xs:List C2) (PR:List ak->Prop),ox P rs=some xs->kk B.w0 sl lh xs PR ->
 ∃ys vs,aE m ys vs/\PR ys/\(rs.mapM (Ia a.tmps)).run P w=.ok vs w
 |[],xs,PR,hc,hv=>by simp only[ox,Ak]at hc;subst hc;exact⟨[],[],by simp[aE],hv,rfl⟩
 |.tmp t::rs,xs,PR,hc,hv=>by
   simp only[ox,Bb]at hc;obtain⟨l,hl,rfl⟩:=hc;simp only[kk]at hv
   let ⟨ys,vs,M,Q,h3⟩:=mM hs rs l _ hl hv
   refine⟨_,a.tmps.getD t undef::vs,?_,Q,?_⟩
   ·simp only[aE];exact⟨_,_,rfl,by simpa using oD hs.1 t undef,M⟩
   ·simp only[J6];rw[af (a:=a.tmps.getD t undef) (w':=w) rfl,af h3];rfl
 |.cell b t::rs,xs,PR,hc,hv=>by
   simp only[ox]at hc;split at hc
   ·rename_i n l hn hl
    cases hc;simp only[kk]at hv;have hb:AW m (sl.getD b .any) (a.tmps.getD b undef):=by simpa using oD hs.1 b undef
    split at hv
    ·rename_i p hp
     rw[hp]at hb
     let ⟨PX,hq,Ro⟩:=j8 hb
     let ⟨d,hd,V6⟩:=lq hn
     cases n with
     |none=>
       let ⟨x,hx,hv⟩:=hv
       obtain⟨ad,v,rfl,hcell,hr⟩:=aAo hs.2.2 Ro hx
       let ⟨ys,vs,M,Q,h3⟩:=mM hs rs l _ hl hv
       refine⟨_,v::vs,by simp only[aE];exact⟨_,_,rfl,hr,M⟩,Q,?_⟩;rcases V6 with ⟨_,k,hk,_⟩|⟨h4,_⟩
       ·cases hk
       ·simp only[J6];rw[af (a:=v) (w':=w) (by simp only[Ia];rw[hq,af (a:=ad) (w':=w) rfl];unfold loadVar;rw[af (lk hd w),h4];exact yy hcell)];rw[af h3];rfl
     |some n=>
       let ⟨x,hx,hv⟩:=hv
       obtain⟨ad,us,rfl,hrun,hr⟩:=uv (P:=P) hs.2.2 Ro hx
       let ⟨ys,vs,M,Q,h3⟩:=mM hs rs l _ hl hv
       refine⟨_,.agg us::vs,by simp only[aE];exact⟨_,_,rfl,by simp only[AW];exact⟨_,rfl,hr⟩,M⟩,Q,?_⟩;rcases V6 with ⟨h4,k,hk,h5⟩|⟨_,hk⟩
       ·cases hk;simp only[J6];rw[af (a:=Value.agg us) (w':=w) (by simp only[Ia];rw[hq,af (a:=ad) (w':=w) rfl];unfold loadVar;rw[af (lk hd w),h4];simp only[Dk];rw[af (run_sizeOf h5 w),af hrun];rfl)];rw[af h3];rfl
       ·cases hk
    ·exact hv.elim
   ·cases hc
theorem IUn {B:dN} {w:World} {AI:Nat} {o:Obj}:∀ {ds:List Deferred},(∀ d'∈ds,d'.target≠.collected AI)->kE B ds w->kE B ds (w.putObj AI o)
 |[],_,_=>trivial|d::ds,hn,⟨D',M,Q,h3,h4,h5⟩=>⟨D',M,(World.putObj_heap_other (λe=>by subst e;exact hn d Eh (by rw[M]))).trans Q,h3,h4,IUn (λd' hd=>hn d' (Do _ hd)) h5⟩
theorem LO {AS : List jc} {f : FuncId} {fn : Func} {sf : aJ} {Sp : ci} (hS : ∀ g, (Pe g).Ok P g) (hE : ∀ t ∈ AQ, dL P t) (hI : mD P AQ AS) (hf : P.funcs[f]? = some fn) (hn : (fn.name == "runtime.NumGoroutine") = false) (hc : eS P AQ AS fn = some sf)
 (h:∀w0 args lh PR,WF lh->kv (λj=>j<lh.length) args->Sp w0 args lh PR->JQ w0 Pe sf args lh (ML lh.length PR)):Sp.Sound P f:=by
 intro B m lh w args vs PR hrel hargs Rh
 have hv:=h B.w0 args lh PR hrel.wf (gH (λj b hb=>Classical.byContradiction λhn=>by rw[hrel.dom j K]at hb;cases hb) args vs hargs) Rh
 unfold eS at hc
 split at hc
 ·rename_i c hb
  split at hc
  ·rename_i s rs hs hr
   cases hc
   refine⟨⟨fn,hf,hn,by rw[hb];rfl⟩,?_⟩
   refine(callsIn_wide (n:=0)).1 (callsIn_of_wp_marks hf hb trivial (wpIn_mono (hnd hS hE hI c Fence.wide 0 lh.length B s _ lh m _ w _ hpR (.inl rfl) hs ?_ hv) λe a w' hq=>?_))
   ·refine⟨?_,trivial,hrel⟩
    simp[KW,Array.toList_replicate,List.size_toArray]
    rw[c9 hargs]
    exact Fy (by simpa using hargs) (gV _ _)
   ·obtain ⟨x,sl,lh',m',rfl,M,Q,_,h3⟩:=hq
    have key:kk B.w0 sl lh' rs (λvs=>ML lh.length PR (sn vs) lh')->∀ (ds:List Deferred) (w1:World),kE B ds w1->SR B m' sl lh' { a with defers:=[] } w1->LeavesInM Fence.wide 0 P fn a.tmps (λe w'=>∃ v r m' lh',e=.returned v/\AW m' r v/\jI lh m lh' m'/\bk B m' lh' w'/\PR r lh') ds .returning w1:=λhv ds=>by
     induction ds with
     |nil=>
       intro w1 _ TW
       let ⟨ys,us,g1,g2,g3⟩:=mM TW fn.results.toList rs _ hr hv
       let ⟨r1,lh1,hsub,hK⟩:=g2
       have hone:AW m' (sn ys) (uQ us):=by
        match ys,g1 with
        |[],g1=>simp[aE]at g1;subst g1;simp[sn,uQ,AW,aE]
        |[y],g1=>simp only[aE]at g1;obtain⟨u,us',rfl,g4,rfl⟩:=g1;exact g4
        |y::z::l,g1=>
          have g1':=g1
          simp[aE]at g1'
          obtain⟨u,us1,rfl,_,u2,us2,rfl,_⟩:=g1'
          simp only[sn,uQ,AW]
          exact⟨_,rfl,by simpa using g1⟩
       let ⟨m1,TX,nH⟩:=hsub.rel (B:={ B with ds:=[] }) (a:=⟨#[uQ us],[]⟩) (m:=m') (w:=w1) ⟨by simp only[aE];exact⟨_,_,rfl,hone,rfl⟩,rfl,TW.2.2.withDs _⟩
       have WY:=TX.1
       simp only[aE]at WY
       let ⟨u,us',e,g5,_⟩:=WY
       simp at e
       exact⟨_,hj1 g3,_,r1,m1,lh1,rfl,by rw[e.1];exact g5,aeN hrel (Q.trans nH),TX.2.2.noDs,hK⟩
     |cons d ds ih=>
       intro w1 hm TW
       obtain⟨AI,rfl,hD,hb,hd,UF⟩:=hm
       refine⟨au,.inl ⟨AI,_,rfl,run_takeDeferred hD,ih _ ?_ ⟨TW.1,trivial,TW.2.2.putObj hD rfl hb.1 hb.2 _⟩⟩⟩
       refine IUn hd UF
    cases x with
    |normal=>exact key h3 a.defers w' M.2.1 ⟨M.1,trivial,M.2.2⟩
    |exit i=>exact h3.elim
    |ret=>exact key h3 a.defers w' M.2.1 ⟨M.1,trivial,M.2.2⟩
  ·cases hc
 ·cases hc
end
end Go.Sx
namespace Go.Sx
def N5:ci:=λ_ _ _ _=>False
section
variable {P:Program} {AQ:List TypeId}
theorem ha' (f:FuncId):N5.Ok P f:=⟨λ_ _ _ _ _ _ _ _ _ h=>h.elim,λ_ _ _ _ _ _ h=>h.elim,λ_ _ _ _ h=>h.elim⟩
end
theorem hwf {lh l:List ar} {PR:ak->List ar->Prop} {r:ak} (h:l8 (λk=>k<lh.length) r) (hc:WF lh) (hK:PR r lh):ML lh.length PR r (lh++l):=by
 refine⟨r,lh,.inr ⟨id,λ_ _=>rfl,Ah _,λk hk _=>(BF hk).symm,?_,λk cs ty hk=>⟨cs,?_,?_⟩,λ_ _ _ _ h=>h⟩,hK⟩
 ·exact ul (by simp only[kv];exact⟨aab (λk hk=>.inl hk) r h,trivial⟩)
 ·rw[id,BF (List.getElem?_eq_some_iff.1 hk).1];exact hk
 ·exact ul (ln (λk hk=>.inl hk) cs (hc k cs ty hk))
end Go.Sx
namespace Go.Dx
open Go.Sx
inductive V where|int (k:IntKind) (n:Int)|bool (b:Bool)|kb (b:Bool)|str (s:ByteArray)|agg (cs:List V)|tup (vs:List V)|fn (f:FuncId) (xs ys:List V)|sl (n:Nat) (f:Nat->List V)|pd (cs:List V)|pl (k off:Nat)|pe (k i j:Nat)|ss (k off n c:Nat)|gs (k n:Nat)|ns|np|any|gd (b:Bool) (v:V)|yl (l:Nat)|go (k off n:Nat)|sq (n m:Nat) (f:Nat->List V)
inductive AD where|cells (cs:List V) (ty:TypeId)|gl (esz n:Nat) (f:Nat->List V) (ty:TypeId)|dead|hid
abbrev bT:=List (Nat×V)
abbrev be:=Nat->List V
structure RD where
 ps:List Nat
 asg:hU
 body:hU
 e0:bT
 l:Nat
inductive AY where|s (c:hU)|i (c:jB) (rd:RD)
inductive AN (α:Type) where|ret (a:α)|br (b:Bool) (x y:AN α)|ob (b:Bool) (x:AN α)|obi (c d:Bool) (x:AN α)|obp (p:Prop) (x:AN α)|obq (a b:List V) (x:AN α)|fail (why:Nat)|loop (fr:Nat×Nat) (body:AY) (e:bT) (h:List AD) (g:Option Ex) (k:Ex->bT->List AD->Option Ex->AN α)|all (f:Nat->AN α)|und (x y:AN α)|asm (p:Prop) (x:AN α)
def ku:bT->Nat->V
 |[],_=>.any|(d,v)::e,i=>cond (Nat.beq i d) v (ku e i)
def gZ {α:Type}:List α->Nat->Option α
 |[],_=>none|a::_,0=>some a|_::l,i+1=>gZ l i
def Fz {α:Type}:List α->Nat->α->List α
 |[],_,_=>[]|_::l,0,b=>b::l|a::l,i+1,b=>a::Fz l i b
def Ik {α:Type}:List α->α->List α
 |[],b=>[b]|a::l,b=>a::Ik l b
def zd {α:Type}:List α->List α->List α
 |[],b=>b|a::l,b=>a::zd l b
def cj {α:Type}:List α->Nat
 |[]=>0|_::l=>cj l+1
def tz {α:Type}:Nat->List α->Option (List α)
 |0,l=>some l|_+1,[]=>none|n+1,_::l=>tz n l
def yU {α:Type}:Nat->List α->Option (List α)
 |0,_=>some []|_+1,[]=>none
 |n+1,a::l=>match yU n l with|some r=>some (a::r)|none=>none
def GQ {α:Type} (l:List α) (off n:Nat):Option (List α) :=
 match tz off l with
 |some r=>yU n r|none=>none
def sg {α:Type}:List α->Nat->List α->Option (List α)
 |cs,0,[]=>some cs|[],0,_::_=>none
 |_::cs,0,x::xs=>match sg cs 0 xs with|some r=>some (x::r)|none=>none
 |[],_+1,_=>none
 |c::cs,off+1,xs=>match sg cs off xs with|some r=>some (c::r)|none=>none
def I0:ak->V
 |.int k n=>.int k n|.bool b=>.kb b|.str s=>.str s|.ptr none=>.np|.slice none 0 0=>.ns|.fn (.func f) [] []=>.fn f [] []|_=>.any
def dR (e:bT):gn->V
 |.t i=>ku e i|.k a=>I0 a
def V.one:V->Bool
 |.agg _|.tup _|.any|.gd ..|.yl _=>false|_=>true
def V.fc:V->Bool
 |.agg _|.tup _|.fn ..|.gd ..|.yl _=>false|_=>true
def V.cells:V->List V
 |.agg cs=>cs|v=>[v]
def V.flat:V->Bool
 |.agg cs=>cs.all V.one|v=>v.one
section
variable {α:Type}
def jA (ctx:Bool) (v:V) (PR:V->AN α):AN α :=
 match v with
 |.gd b v=>.obi ctx b (PR v)|v=>PR v
def wd (ctx:Bool) (e:bT):List gn->(List V->AN α)->AN α
 |[],PR=>PR []|x::xs,PR=>jA ctx (dR e x) λv=>wd ctx e xs λvs=>PR (v::vs)
def wb (ctx:Bool) (e:bT):Option gn->(Option V->AN α)->AN α
 |none,PR=>PR none|some x,PR=>jA ctx (dR e x) λv=>PR (some v)
def zH (ctx:Bool) (p:Prop) [Decidable p] (x:AN α):AN α:=.obi ctx (decide p) x
def gx (pl:Option Nat) (h:List AD) (o:AD) (PR:Nat->List AD->AN α):AN α :=
 match pl with
 |none=>PR (cj h) (Ik h o)
 |some p=>match gZ h p with|some .dead=>PR p (Fz h p o)|_=>.fail 1
def rU (ctx:Bool) (e:bT):List (Nat×Nat×gn)->List V->(List V->AN α)->AN α
 |[],z,PR=>PR z
 |(off,n,x)::ps,z,PR=>jA ctx (dR e x) λv=>
   cond (v.flat&&Nat.beq (cj v.cells) n) (match sg z off v.cells with|some z=>rU ctx e ps z PR|none=>.fail 2) (.fail 3)
def SB (ctx:Bool) (op:BinOp) (k:IntKind) (a b:Int) (PR:V->AN α):AN α :=
 match op with
 |.add=>PR (.int k (k.wrap (a+b)))|.sub=>PR (.int k (k.wrap (a-b)))|.mul=>PR (.int k (k.wrap (a*b)))|.quo=>zH ctx (b≠0) (PR (.int k (k.wrap (a.tdiv b))))|.rem=>zH ctx (b≠0) (PR (.int k (a.tmod b)))|.eql=>PR (.bool (a==b))|.neq=>PR (.bool (a !=b))|.lss=>PR (.bool (decide (a<b)))|.leq=>PR (.bool (decide (a<=b)))|.gtr=>PR (.bool (decide (b<a)))|.geq=>PR (.bool (decide (b<=a)))|.and=>PR (.int k (bits .and k a b))|.or=>PR (.int k (bits .or k a b))|.xor=>PR (.int k (bits .xor k a b))|.shl=>zH ctx (0<=b) (PR (.int k (k.wrap (a*2 ^ min b.toNat k.bits))))|.shr=>zH ctx (0<=b) (PR (.int k (a.fdiv (2 ^ min b.toNat k.bits))))|_=>.fail 4
def Dz (ctx:Bool) (op:BinOp) (x y:V) (PR:V->AN α):AN α :=
 match x,y with
 |.int k a,.int k' b=>match decEq k k' with|.isTrue _=>SB ctx op k a b PR|.isFalse _=>.fail 5
 |.str a,.str b=>match op with|.eql=>PR (.bool (a.toList==b.toList))|.neq=>PR (.bool !(a.toList==b.toList))|.add=>zH ctx (((a.size+b.size:Nat):Int)<=IntKind.i64.max) (PR (.str (a++b)))|_=>.fail 6
 |_,_=>.fail 7
def pi:V->Option Bool
 |.bool b=>some b|.kb b=>some b|_=>none
mutual
def Em (c:Bool):V->V->Option V
 |.int k a,.int k' b=>match decEq k k' with|.isTrue _=>some (.int k (cond c a b))|.isFalse _=>none
 |.bool a,y=>match pi y with|some b=>some (.bool (cond c a b))|none=>none
 |.kb a,y=>match pi y with|some b=>some (.bool (cond c a b))|none=>none
 |.str a,.str b=>some (.str (cond c a b))
 |.agg xs,.agg ys=>match LL c xs ys with|some zs=>some (.agg zs)|none=>none
 |_,_=>none
def LL (c:Bool):List V->List V->Option (List V)
 |[],[]=>some []
 |x::xs,y::ys=>match Em c x y with
   |some z=>match LL c xs ys with|some zs=>some (z::zs)|none=>none
   |none=>none
 |_,_=>none
end
def FP:List V->List V->Option Bool
 |[],[]=>some true
 |.int k a::xs,.int k' b::ys=>match decEq k k' with
   |.isTrue _=>match FP xs ys with|some r=>some (a==b&&r)|none=>none
   |.isFalse _=>none
 |_,_=>none
def JG (isMax:Bool):V->List V->Option V
 |x,[]=>some x
 |.int k a,.int k' b::xs=>match decEq k k' with|.isTrue _=>JG isMax (.int k (if isMax then max a b else min a b)) xs|.isFalse _=>none
 |_,_=>none
def oh (ctx:Bool) (x:Option V) (y d:Nat) (PR:Nat->AN α):AN α :=
 match x with
 |none=>PR d|some (.int _ i)=>zH ctx (0<=i/\i<=y) (PR i.toNat)|_=>.fail 8
def W9 (m l a b:Nat):Nat:=cond (Nat.beq m l) a b
def nX (esz:Nat) (l:List V):Bool:=Nat.beq (cj l) esz&&l.all V.one
def dz:Nat->(Nat->Bool)->Bool
 |0,_=>true|n+1,p=>dz n p&&p n
def Gr (h:List AD) (esz:Nat):V->Option (Nat×(Nat->List V)×Bool)
 |.ns=>some (0,λ_=>[],true)|.sl n f=>some (n,f,dz n λi=>nX esz (f i))
 |.gs k n=>match gZ h k with|some (.gl e n' f _)=>cond (Nat.beq e esz) (some (n,f,Nat.ble n n')) none|_=>none
 |.ss k off n _=>match gZ h k with
   |some (.cells cs _)=>match GQ cs off (n*esz) with
     |some ds=>cond (ds.all V.one) (match n with|1=>some (1,λ_=>ds,true)|n=>some (n,λi=>(ds.drop (i*esz)).take esz,true)) none
     |none=>none
   |_=>none
 |.go k off n=>match gZ h k with|some (.gl e n' f _)=>cond (Nat.beq e esz) (some (n,λi=>f (off+i),Nat.ble (off+n) n')) none|_=>none
 |_=>none
def bc (n:Nat) (f g:be) (i:Nat):List V:=cond (Nat.blt i n) (f i) (g (i-n))
abbrev CF (α:Type):=FuncId->List V->List AD->(V->List AD->AN α)->AN α
def N8 (pl:Option Nat) (h:List AD) (ty:TypeId) (esz bytes:Nat) (s x:V) (PR:V->List AD->AN α):AN α :=
 match Gr h esz x with
 |none=>.fail 10
 |some (m,g,PX)=>.ob PX (match s with
   |.ns=>.ob (decide (m*bytes<=140737488355328)&&!Nat.beq bytes 0) (gx pl h (.gl esz m g ty) λp h=>PR (.gs p m) h)
   |.gs k n=>match gZ h k with
     | some (.gl e n' f ty')=>cond (Nat.beq e esz&&Nat.beq ty ty') (.ob (decide (n<=n'/\(n+m)*bytes<=140737488355328)&&!Nat.beq bytes 0)
        (gx pl (Fz h k .hid) (.gl esz (n+m) (bc n f g) ty) λp h=>PR (.gs p (n+m)) h)) (.fail 11)
     |_=>.fail 12
   |.ss k off n c=>match Gr h esz (.ss k off n c) with
     |some (_,f,_)=>match n,c with
       |0,0=>match gZ h k with|some (.cells [] ty')=>cond (Nat.beq ty ty'&&Nat.beq off 0) (.ob (decide (m*bytes<=140737488355328)&&!Nat.beq bytes 0) (gx pl (Fz h k .hid) (.gl esz m g ty) λp h=>PR (.gs p m) h)) (.fail 15)|_=>.fail 16
       |_,_=>match x with|.go _ _ _=>.br (Nat.beq m 0) (.ob (Nat.ble n c) (PR (.ss k off n c) h)) (.ob (decide (c<n+m/\(n+m)*bytes<=140737488355328)&&!Nat.beq bytes 0) (gx pl h (.gl esz (n+m) (bc n f g) ty) λp h=>PR (.gs p (n+m)) h))|_=>.ob (decide (c<n+m/\(n+m)*bytes<=140737488355328)&&!Nat.beq bytes 0) (gx pl h (.gl esz (n+m) (bc n f g) ty) λp h=>PR (.gs p (n+m)) h)
     |none=>.fail 13
   |_=>.fail 14)
def Jt (h:List AD):V->Option V
 |.pl k off=>match gZ h k with|some (.cells cs _)=>gZ cs off|_=>none
 |.pe k i j=>match gZ h k with|some (.gl _ _ f _)=>gZ (f i) j|_=>none
 |.pd cs=>gZ cs 0|_=>none
def Wx (h:List AD) (n:Nat):V->Option (List V)
 |.pl k off=>match gZ h k with|some (.cells cs _)=>GQ cs off n|_=>none
 |.pe k i j=>match gZ h k with|some (.gl _ _ f _)=>GQ (f i) j n|_=>none
 |.pd cs=>yU n cs|_=>none
def LK (l:List V) (i:Nat):V:=match gZ l i with|some v=>v|none=>.any
def Zh (cs:List V) (j:Nat) (xs:List V):Nat->Nat->List V
 |_,0=>[]|t,m+1=>cond (Nat.ble j t&&Nat.blt t (j+cj xs)) (LK xs (t-j)) (LK cs t)::Zh cs j xs (t+1) m
def K9 (e:Nat) (cs:List V) (j:Nat) (xs:List V):Option (List V):=cond (Nat.ble (j+cj xs) e) (some (Zh cs j xs 0 e)) none
def Xl (e:Nat) (f:be) (i j:Nat) (xs:List V):Nat->List V:=λi'=>cond (Nat.beq i' i) (Zh (f i) j xs 0 e) (f i')
def Yp (h:List AD) (xs:List V):V->Option (List AD)
 |.pl k off=>match gZ h k with
   |some (.cells cs ty)=>match sg cs off xs with|some cs=>some (Fz h k (.cells cs ty))|none=>none
   |_=>none
 |.pe k i j=>match gZ h k with|some (.gl e n f ty)=>cond (Nat.ble (j+cj xs) e) (some (Fz h k (.gl e n (Xl e f i j xs) ty))) none|_=>none
 |_=>none
def ayw:Nat->List V
 |0=>[]|n+1=>.int .i64 0::ayw n
def XH (ctx:Bool) (h:List AD) (v:V) (x:AN α):AN α :=
 match v with
 |.pe k i _=>match gZ h k with|some (.gl _ n _ _)=>zH ctx (i<n) x|_=>.fail 17
 |_=>x
def C0 (cf:CF α) (ctx:Bool) (pl:Option Nat) (op:lZ) (e:bT) (h:List AD) (PR:V->List AD->AN α):AN α :=
 match op with
 |.mov x=>jA ctx (dR e x) λv=>PR v h
 |.pick c a b=>jA ctx (dR e c) λc=>match c with
   |.kb true=>jA ctx (dR e a) λv=>PR v h
   |.kb false=>jA ctx (dR e b) λv=>PR v h
   |.bool c=>jA (ctx&&c) (dR e a) λx=>jA (ctx&&!c) (dR e b) λy=>match Em c x y with
     |some v=>PR v h
     |none=>.br c (PR x h) (PR y h)
   |.tup _=>.obi ctx false (PR .any h)
   |_=>.fail 20
 |.new ty z=>gx pl h (.cells (z.map I0) ty) λp h=>PR (.pl p 0) h
 |.box ty x=>jA ctx (dR e x) λv=>cond v.flat (gx pl h (.cells v.cells ty) λp h=>PR (.pl p 0) h) (.fail 21)
 |.agg z ps=>rU ctx e ps (z.map I0) λcs=>PR (.agg cs) h
 |.bsl ty n z ps=>rU ctx e ps (z.map I0) λcs=>gx pl h (.cells cs ty) λp h=>PR (.ss p 0 n n) h
 |.ld a=>jA ctx (dR e a) λa=>XH ctx h a (match Jt h a with
   |some v=>PR v h
   |none=>.fail 22)
 |.lds n a=>jA ctx (dR e a) λa=>XH ctx h a (match Wx h n a with
   |some cs=>PR (.agg cs) h
   |none=>.fail 23)
 |.st n a x=>jA ctx (dR e a) λa=>jA ctx (dR e x) λv=>XH ctx h a (cond (v.flat&&Nat.beq (cj v.cells) n) (match Yp h v.cells a with
    |some h=>PR (.tup []) h
    |none=>.fail 24) (.fail 25))
 |.nz x=>jA ctx (dR e x) λv=>match v with
   |.pl k o=>PR (.pl k o) h
   |.pe k i j=>PR (.pe k i j) h
   |.pd cs=>PR (.pd cs) h
   |.fn f a b=>PR (.fn f a b) h
   |_=>.fail 26
 |.bin op x y=>jA ctx (dR e x) λx=>jA ctx (dR e y) λy=>Dz ctx op x y λv=>PR v h
 |.eqa neg n x y=>jA ctx (dR e x) λx=>jA ctx (dR e y) λy=>match x,y with
   |.agg xs,.agg ys=>match FP xs ys with
     |some b=>cond (Nat.beq (cj xs) n) (PR (.bool (if neg then !b else b)) h) (.fail 27)
     |none=>.fail 28
   |_,_=>.fail 29
 |.eqb neg x y=>jA ctx (dR e x) λx=>jA ctx (dR e y) λy=>match pi x,pi y with
   |some a,some b=>PR (.bool (if neg then !(a==b) else a==b)) h
   |_,_=>.fail 30
 |.un op x=>jA ctx (dR e x) λx=>match op,x with
   |.neg,.int k n=>PR (.int k (k.wrap (0-n))) h
   |.not,.bool b=>PR (.bool !b) h
   |.not,.kb b=>PR (.kb !b) h
   |_,_=>.fail 31
 |.conv k x=>jA ctx (dR e x) λx=>match x with
   |.int _ n=>PR (.int k (k.wrap n)) h
   |_=>.fail 32
 |.mkf f xs ys=>match f with
   |.func f=>wd ctx e xs λus=>wd ctx e ys λvs=>PR (.fn f us vs) h
   |_=>.fail 33
 |.fa off x=>jA ctx (dR e x) λx=>match x with
   |.pl k o=>PR (.pl k (o+off)) h
   |.pe k i j=>PR (.pe k i (j+off)) h
   |.pd cs=>match tz off cs with
     |some cs=>PR (.pd cs) h
     |none=>.fail 34
   |_=>.fail 35
 |.fld off n x=>jA ctx (dR e x) λx=>match x with
   |.agg cs=>match n with
     |some n=>match GQ cs off n with
       |some ds=>PR (.agg ds) h
       |none=>.fail 36
     |none=>match gZ cs off with
       |some v=>PR v h
       |none=>.fail 37
   |_=>.fail 38
 |.iaA n esz x ix=>jA ctx (dR e x) λx=>jA ctx (dR e ix) λix=>match x,ix with
   |.pl k o,.int _ i=>zH ctx (0<=i/\i<n) (PR (.pl k (o+i.toNat*esz)) h)
   |.pe k j o,.int _ i=>zH ctx (0<=i/\i<n) (PR (.pe k j (o+i.toNat*esz)) h)
   |.pd cs,.int _ i=>match tz (i.toNat*esz) cs with
     |some cs=>zH ctx (0<=i/\i<n) (PR (.pd cs) h)
     |none=>.fail 39
   |_,_=>.fail 40
 |.iaS esz x ix=>jA ctx (dR e x) λx=>jA ctx (dR e ix) λix=>match x,ix with
   |.sl n f,.int _ i=>cond (Nat.beq (cj (f i.toNat)) esz) (zH ctx (0<=i/\i<n) (PR (.pd (f i.toNat)) h)) (.fail 41)
   |.ss k o n _,.int _ i=>zH ctx (0<=i/\i<n) (PR (.pl k (o+i.toNat*esz)) h)
   |.gs k n,.int _ i=>match gZ h k with
     |some (.gl e n' _ _)=>cond (Nat.beq e esz) (zH ctx (0<=i/\i<n/\n<=n') (PR (.pe k i.toNat 0) h)) (.fail 42)
     |_=>.fail 43
   |.go k off n,.int _ i=>match gZ h k with
     |some (.gl e n' _ _)=>cond (Nat.beq e esz) (zH ctx (0<=i/\i<n/\off+n<=n') (PR (.pe k (off+i.toNat) 0) h)) (.fail 42)
     |_=>.fail 43
   |.ns,.int _ i=>zH ctx (0<=i/\i<(0:Int)) (PR (.pd (ayw esz)) h)
   |_,_=>.fail 44
 |.ixA n esz sz x ix=>jA ctx (dR e x) λx=>jA ctx (dR e ix) λix=>match x,ix with
   |.agg cs,.int _ i=>match sz with
     |some sz=>match GQ cs (i.toNat*esz) sz with
       |some ds=>zH ctx (0<=i/\i<n) (PR (.agg ds) h)
       |none=>.fail 45
     |none=>match gZ cs (i.toNat*esz) with
       |some v=>zH ctx (0<=i/\i<n) (PR v h)
       |none=>.fail 46
   |_,_=>.fail 47
 |.ixS x ix=>jA ctx (dR e x) λx=>jA ctx (dR e ix) λix=>match x,ix with
   |.str s,.int _ i=>zH ctx (0<=i/\i<s.size) (PR (.int .u8 ((s.data.toList.getD i.toNat 0).toNat:Int)) h)
   |_,_=>.fail 48
 |.len x=>jA ctx (dR e x) λx=>match x with
   |.sl n _=>.asm (ctx=true->n<=9223372036854775807) (PR (.int .i64 n) h)
   |.ss _ _ n _=>PR (.int .i64 n) h
   |.gs _ n=>PR (.int .i64 n) h
   |.ns=>PR (.int .i64 0) h
   |.go _ _ n=>PR (.int .i64 n) h
   |_=>.fail 49
 |.lenT x=>jA ctx (dR e x) λx=>match x with
   |.str s=>PR (.int .i64 s.size) h
   |_=>.fail 50
 |.lenA n=>PR (.int .i64 n) h
 |.mm b x xs=>jA ctx (dR e x) λx=>wd ctx e xs λxs=>match JG b x xs with
   |some v=>PR v h
   |none=>.fail 51
 |.ext x i=>jA ctx (dR e x) λx=>match x with
   |.tup vs=>match gZ vs i with
     |some v=>PR v h
     |none=>.fail 52
   |_=>.fail 53
 |.slS esz x lo hi mx=>jA ctx (dR e x) λx=>wb ctx e lo λlo=>wb ctx e hi λhi=>wb ctx e mx λmx=>match x with
   |.sl n f=>match mx with
     |none=>cond (Nat.beq (cj (f 0)) esz) (oh ctx hi n n λb=>oh ctx lo b 0 λa=>PR (.sl (b-a) (λi=>f (a+i))) h) (.fail 19)
     |some _=>.fail 54
   |.gs k n=>match mx,lo with
     |none,none=>oh ctx hi n n λb=>PR (.gs k b) h
     |none,some lo=>match gZ h k with
       |some (.gl e _ _ _)=>cond (Nat.beq e esz) (oh ctx hi n n λb=>oh ctx (some lo) b 0 λa=>PR (.go k a (b-a)) h) (.fail 104)
       |_=>.fail 105
     |_,_=>.fail 55
   |.ss k o n c=>oh ctx mx c c λm=>oh ctx hi m n λb=>oh ctx lo b 0 λa=>PR (.ss k (W9 m a o (o+a*esz)) (b-a) (m-a)) h
   |.ns=>match mx with
     |none=>oh ctx hi 0 0 λb=>oh ctx lo b 0 λ_=>PR .ns h
     |some _=>.fail 56
   |_=>.fail 57
 |.slA n esz x lo hi mx=>jA ctx (dR e x) λx=>wb ctx e lo λlo=>wb ctx e hi λhi=>wb ctx e mx λmx=>match x with
   |.pl k o=>oh ctx mx n n λm=>oh ctx hi m n λb=>oh ctx lo b 0 λa=>PR (.ss k (W9 m a o (o+a*esz)) (b-a) (m-a)) h
   |_=>.fail 58
 |.slT x lo hi=>jA ctx (dR e x) λx=>wb ctx e lo λlo=>wb ctx e hi λhi=>match x with
   |.str s=>oh ctx hi s.size s.size λb=>oh ctx lo b 0 λa=>PR (.str (s.extract a b)) h
   |_=>.fail 59
 |.app ty esz bytes z s x=>jA ctx (dR e s) λs=>jA ctx (dR e x) λx=>cond (Nat.beq (cj z) esz) (N8 pl h ty esz bytes s x PR) (.fail 18)
 |.mks ty n cs=>gx pl h (.cells (cs.map I0) ty) λp h=>PR (.ss p 0 n n) h
 |.call f xs=>wd ctx e xs λvs=>cf f vs h PR
 |.callv x xs=>jA ctx (dR e x) λx=>wd ctx e xs λvs=>match x with
   |.fn f a b=>cf f (zd (zd a vs) b) h PR
   |_=>.fail 60
 |.isn neg x=>jA ctx (dR e x) λx=>match x with
   |.ns=>PR (.kb (!neg)) h
   |.ss ..=>PR (.kb neg) h
   |.sl n _=>.und (.asm (n=0) (PR (.kb (!neg)) h)) (PR (.kb neg) h)
   |.gs _ n=>.und (.asm (n=0) (PR (.kb (!neg)) h)) (PR (.kb neg) h)
   |_=>.fail 100
 |.clr esz z x=>jA ctx (dR e x) λx=>match x with
   |.go k off n=>match gZ h k with
     |some (.gl e n' f ty)=>cond (Nat.beq e esz&&nX e (z.map I0)) (.ob (decide (0<n/\off+n<=n')) (PR (.tup []) (Fz h k (.gl e n' (λi=>cond (Nat.ble off i&&Nat.blt i (off+n)) (z.map I0) (f i)) ty)))) (.fail 101)
     |_=>.fail 102
   |_=>.fail 103
def mB:lZ->Bool
 |.new ..|.box ..|.bsl ..|.st ..|.app ..|.mks ..|.call ..|.callv ..|.clr ..=>false|_=>true
def eN (e:bT) (d:Option Nat) (v:V):bT :=
 match d with
 |some d=>(d,v)::e|none=>e
def gB (b want:Bool):Bool:=match want with|true=>b|false=>!b
def hJ (cf : CF α):List jt->bT->List AD->(bT->List AD->AN α)->AN α
 |[],e,h,PR=>PR e h
 |o::rest,e,h,PR=>
   match o.guard with
   |none=>C0 cf true none o.op e h λv h=>hJ cf rest (eN e o.dst v) h PR
   |some (d,want)=>
     match ku e d with
     |.kb b=>match decEq b want with
       |.isTrue _=>C0 cf true none o.op e h λv h=>hJ cf rest (eN e o.dst v) h PR
       |.isFalse _=>hJ cf rest (eN e o.dst (.tup [])) h PR
     |.tup _=>hJ cf rest (eN e o.dst (.tup [])) h PR|.int ..=>hJ cf rest (eN e o.dst (.tup [])) h PR
     |.bool b=>match mB o.op with
       |true=>C0 cf (gB b want) none o.op e h λv _=>hJ cf rest (eN e o.dst (.gd (gB b want) v)) h PR
       | false=>.br (gB b want) (C0 cf true none o.op ((d,.kb want)::e) h λv h=>hJ cf rest (eN ((d,.kb want)::e) o.dst v) h PR)
          (hJ cf rest (eN ((d,.kb (!want))::e) o.dst (.tup [])) h PR)
     |.gd c v=>match pi v with
       |none=>match v with|.tup _=>hJ cf rest (eN e o.dst (.tup [])) h PR|_=>.fail 62
       |some b=>match mB o.op with
         |true=>C0 cf (c&&gB b want) none o.op e h λv _=>hJ cf rest (eN e o.dst (.gd (c&&gB b want) v)) h PR
         | false=>.br (c&&gB b want) (C0 cf true none o.op ((d,.kb want)::e) h λv h=>hJ cf rest (eN ((d,.kb want)::e) o.dst v) h PR)
            (hJ cf rest (eN e o.dst (.tup [])) h PR)
     |_=>.fail 61
end
def ze (k:Nat):List Nat->Bool
 |[]=>false|x::l=>cond (Nat.beq k x) true (ze k l)
def Hm:List Nat->List Nat->Bool
 |[],_=>true|k::l,Q8=>ze k Q8&&Hm l Q8
def MI:List Nat->List Nat->Bool
 |[],_=>true|k::l,Q8=>!ze k Q8&&MI l Q8
def fk (h:List AD) (k:Nat):Bool :=
 match gZ h k with
 |some (.cells ..)=>true|some (.gl ..)=>true|_=>false
def kI (h:List AD):V->Option (List Nat)
 |.pl k _=>cond (fk h k) (some [k]) none|.pe k _ _=>cond (fk h k) (some [k]) none|.ss k _ _ _=>cond (fk h k) (some [k]) none|.gs k _=>cond (fk h k) (some [k]) none|.ns=>some []|_=>none
def I3 (h:List AD) (e:bT) (H:Nat):EK->Option (List Nat)
 |.fresh r=>some [H+r]|.slot s=>kI h (ku e s)
 |.load s off=>match ku e s with
   |.pl k o=>match Jt h (.pl k (o+off)) with|some v=>kI h v|none=>none
   |_=>none
def uY (h:List AD) (e:bT) (H:Nat):List EK->Option (List Nat)
 |[]=>some []
 |x::l=>match I3 h e H x,uY h e H l with|some a,some b=>some (zd a b)|_,_=>none
def va (h:List AD) (e:bT) (H:Nat):List jq->Option (List (List Nat))
 |[]=>some []
 |d::l=>match uY h e H d.ws,va h e H l with|some a,some b=>some (a::b)|_,_=>none
def d4 (Ws:List (List Nat)) (i:Nat):List Nat:=match gZ Ws i with|some l=>l|none=>[]
def o3 (Ws:List (List Nat)):List Nat->List Nat
 |[]=>[]|u::un=>zd (d4 Ws u) (o3 Ws un)
def vb (Ws:List (List Nat)):List jq->Nat->Bool
 |[],_=>true|d::l,i=>MI (d4 Ws i) (o3 Ws d.un)&&vb Ws l (i+1)
def kr (X:List Nat):List AD->Nat->List AD
 |[],_=>[]|o::h,k=>cond (ze k X) AD.hid o::kr X h (k+1)
def kC (X:List Nat) (h:List AD):List AD:=match X with|[]=>h|_=>kr X h 0
def mK (Q8:List Nat) (l:List AD):List AD->Nat->List AD
 |[],_=>[]
 |o::h,k=>cond (ze k Q8) (match gZ l k with|some o'=>o'|none=>o) o::mK Q8 l h (k+1)
def Hy (Q8:List Nat) (h l:List AD):List AD:=mK Q8 l h 0
def yg (Ws:List (List Nat)) (QE:List Nat):List jq->Nat->Nat->Bool
 |[],_,_=>true
 |d::l,i,j=>cond (Nat.blt i j) ((match d.rk with|none=>true|some _=>MI (d4 Ws i) QE||Hm (d4 Ws i) QE)&&yg Ws QE l (i+1) j) true
def Al (Ws:List (List Nat)) (all:List jq):List jq->Nat->Bool
 |[],_=>true|d::l,j=>(yg Ws (d4 Ws j) all 0 j&&yg Ws (o3 Ws d.un) all 0 j)&&Al Ws all l (j+1)
def undead:List AD->List AD
 |[]=>[]
 |o::h=>(match o with|.dead=>.hid|o=>o)::undead h
def deads:Nat->List AD
 |0=>[]|n+1=>.dead::deads n
def Jv (h:List AD) (e:bT) (pl:Option Nat):lZ->Option (List Nat)
 |.st _ a _=>kI h (dR e a)
 |.app _ _ _ _ s _=>match kI h (dR e s),pl with|some l,some p=>some (p::l)|_,_=>none
 |.new ..|.box ..|.bsl ..|.mks ..=>match pl with|some p=>some [p]|none=>none
 |.call ..|.callv ..=>some []|.clr ..=>none|_=>some []
def L9 (pl:Option Nat) (l:List Nat):List Nat:=match pl with|some p=>p::l|none=>l
section
variable {α:Type}
abbrev CP (α:Type):=Bool->FuncId->List V->List AD->(V->AN α)->AN α
def JD (cp:CP α) (Ws:List (List Nat)) (H:Nat) (d:jq) (i:Nat) (e:bT) (h:List AD) (PR:V->List AD->AN α):AN α :=
 match mB d.o.op with
 |true=>C0 (λf vs h PR=>cp false f vs h λv=>PR v h) true none d.o.op e (kC (o3 Ws d.un) h) λv _=>PR v h
 |false=>match Jv (kC (o3 Ws d.un) h) e (d.rk.map (H+·)) d.o.op with|none=>.fail 63|some l=>cond (Hm (L9 (d.rk.map (H+·)) l) (d4 Ws i)) (C0 (λf vs h PR=>cp false f vs h λv=>PR v h) true (d.rk.map (H+·)) d.o.op e (kC (o3 Ws d.un) h) λv l=>PR v (Hy (d4 Ws i) h l)) (.fail 64)
def fW (cp : CP α) (Ws:List (List Nat)) (H:Nat):List jq->Nat->bT->List AD->(bT->List AD->AN α)->AN α
 |[],_,e,h,PR=>PR e h
 |d::rest,i,e,h,PR=>
   match d.o.guard with
   |none=>JD cp Ws H d i e h λv h=>fW cp Ws H rest (i+1) (eN e d.o.dst v) h PR
   |some (g,want)=>
     match ku e g with
     |.kb b=>match decEq b want with
       |.isTrue _=>JD cp Ws H d i e h λv h=>fW cp Ws H rest (i+1) (eN e d.o.dst v) h PR
       |.isFalse _=>fW cp Ws H rest (i+1) (eN e d.o.dst (.tup [])) h PR
     |.tup _=>fW cp Ws H rest (i+1) (eN e d.o.dst (.tup [])) h PR|.int ..=>fW cp Ws H rest (i+1) (eN e d.o.dst (.tup [])) h PR
     |.bool b=>match mB d.o.op with
       |true=>C0 (λf vs h PR=>cp false f vs h λv=>PR v h) (gB b want) none d.o.op e (kC (o3 Ws d.un) h) λv _=>fW cp Ws H rest (i+1) (eN e d.o.dst (.gd (gB b want) v)) h PR
       | false=>.br (gB b want) (JD cp Ws H d i ((g,.kb want)::e) h λv h=>fW cp Ws H rest (i+1) (eN ((g,.kb want)::e) d.o.dst v) h PR)
          (fW cp Ws H rest (i+1) (eN ((g,.kb (!want))::e) d.o.dst (.tup [])) h PR)
     |.gd c v=>match pi v with
       |none=>match v with|.tup _=>fW cp Ws H rest (i+1) (eN e d.o.dst (.tup [])) h PR|_=>.fail 65
       |some b=>match mB d.o.op with
         |true=>C0 (λf vs h PR=>cp false f vs h λv=>PR v h) (c&&gB b want) none d.o.op e (kC (o3 Ws d.un) h) λv _=>fW cp Ws H rest (i+1) (eN e d.o.dst (.gd (c&&gB b want) v)) h PR
         | false=>.br (c&&gB b want) (JD cp Ws H d i ((g,.kb want)::e) h λv h=>fW cp Ws H rest (i+1) (eN ((g,.kb want)::e) d.o.dst v) h PR)
            (fW cp Ws H rest (i+1) (eN e d.o.dst (.tup [])) h PR)
     |_=>.fail 66
def xp (cp:CP α) (ds:List jq) (e:bT) (h:List AD) (PR:bT->List AD->AN α):AN α :=
 match va (undead h) e (cj h) ds with
 |none=>.fail 67|some Ws=>cond (vb Ws ds 0&&Al Ws ds ds 0) (fW cp Ws (cj h) ds 0 e (zd (undead h) (deads (RF ds))) PR) (.fail 68)
def Kt (ev:bT->List AD->(Ex->bT->List AD->AN α)->AN α):Nat->bT->List AD->(Ex->bT->List AD->AN α)->AN α
 |0,_,_,_=>.fail 90
 |n+1,e,h,PR=>ev e h λx e h=>match x with|.normal=>Kt ev n e h PR|.exit i=>PR (.exit i) e h|.ret=>PR .ret e h
def YY (ev:bT->List AD->Option Ex->(Ex->bT->List AD->Option Ex->AN α)->AN α):Nat->bT->List AD->Option Ex->(Ex->bT->List AD->Option Ex->AN α)->AN α
 |0,_,_,_,_=>.fail 91
 |n+1,e,h,g,PR=>ev e h g λx e h g=>match x with|.normal=>YY ev n e h g PR|.exit i=>PR (.exit i) e h g|.ret=>PR .ret e h g
def rR:bT->List Nat->List V->bT
 |e,p::ps,x::xs=>rR ((p,x)::e) ps xs|e,_,_=>e
abbrev YV (α:Type):=List V->List AD->(Ex->List AD->AN α)->AN α
def MA (l:Nat) (QE:YV α) (t:Nat) (d:Option Nat) (xs:List gn) (e:bT) (h:List AD) (g:Option Ex) (QW:bT->List AD->Option Ex->AN α):AN α:=jA true (ku e t) λv=>match g,v with
 |none,.yl l'=>.obq [.yl l'] [.yl l] (wd true e xs λvs=>QE vs h λx h=>match x with|.normal=>QW (eN e d (.kb true)) h none|.exit i=>QW (eN e d (.kb false)) h (some (.exit i))|.ret=>QW (eN e d (.kb false)) h (some .ret))
 |_,_=>.fail 92
def dP (cf:CF α) (l:Nat) (QE:YV α):List o0->bT->List AD->Option Ex->(bT->List AD->Option Ex->AN α)->AN α
 |[],e,h,g,PR=>PR e h g|.op o::rest,e,h,g,PR=>hJ cf [o] e h λe h=>dP cf l QE rest e h g PR
 |.yld t d xs::rest,e,h,g,PR=>match g,ku e t with
   |none,.yl l'=>.obq [.yl l'] [.yl l] (wd true e xs λvs=>QE vs h λx h=>match x with|.normal=>dP cf l QE rest (eN e d (.kb true)) h none PR|.exit i=>dP cf l QE rest (eN e d (.kb false)) h (some (.exit i)) PR|.ret=>dP cf l QE rest (eN e d (.kb false)) h (some .ret) PR)
   |_,_=>.fail 92
 |.yldG d want t dst xs::rest,e,h,g,PR=>match ku e d with
   |.kb b=>match decEq b want with
     |.isTrue _=>MA l QE t dst xs e h g λe h g=>dP cf l QE rest e h g PR
     |.isFalse _=>dP cf l QE rest (eN e dst (.tup [])) h g PR
   |.tup _=>dP cf l QE rest (eN e dst (.tup [])) h g PR|.int ..=>dP cf l QE rest (eN e dst (.tup [])) h g PR|.bool b=>.br (gB b want) (MA l QE t dst xs ((d,.kb want)::e) h g λe h g=>dP cf l QE rest e h g PR) (dP cf l QE rest (eN ((d,.kb (!want))::e) dst (.tup [])) h g PR)
   |.gd c v=>match pi v with|none=>.fail 104|some b=>.br (c&&gB b want) (MA l QE t dst xs ((d,.kb want)::e) h g λe h g=>dP cf l QE rest e h g PR) (dP cf l QE rest (eN e dst (.tup [])) h g PR)
   |_=>.fail 105
abbrev l7:=Nat->Nat
def oE (cf:CF α) (cp:CP α) (un:l7) (fr:Nat×Nat) (rd:RD) (QE:YV α):Nat->jB->bT->List AD->Option Ex->(Ex->bT->List AD->Option Ex->AN α)->AN α
 |_,.skip,e,h,g,PR=>PR .normal e h g|_,.reg ops,e,h,g,PR=>dP cf rd.l QE ops e h g (PR .normal)|_,.draw ds,e,h,g,PR=>xp cp ds e h λe h=>PR .normal e h g
 |_,.drawY ds xs,e,h,g,PR=>xp cp ds e h λe h=>dP cf rd.l QE xs e h g (PR .normal)
 |bi,.seq a b,e,h,g,PR=>oE cf cp un fr rd QE bi a e h g λx e h g=>match x with|.normal=>oE cf cp un fr rd QE bi b e h g PR|.exit i=>PR (.exit i) e h g|.ret=>PR .ret e h g
 |bi,.cond c a b,e,h,g,PR=>match dR e c with
   |.kb true=>oE cf cp un fr rd QE bi a e h g PR|.kb false=>oE cf cp un fr rd QE bi b e h g PR
   |.bool t=>match c with|.t s=>.br t (oE cf cp un fr rd QE bi a ((s,.kb true)::e) h g PR) (oE cf cp un fr rd QE bi b ((s,.kb false)::e) h g PR)|_=>.br t (oE cf cp un fr rd QE bi a e h g PR) (oE cf cp un fr rd QE bi b e h g PR)
   |_=>.fail 69
 |_,.block id b,e,h,g,PR=>oE cf cp un fr rd QE id b e h g λx e h g=>match x with|.exit i=>cond (Nat.beq i id) (PR .normal e h g) (PR (.exit i) e h g)|.normal=>PR .normal e h g|.ret=>PR .ret e h g
 |bi,.loop b,e,h,g,PR=>match un bi with|0=>.loop fr (.i b rd) e h g PR|n+1=>YY (oE cf cp un fr rd QE bi b) (n+1) e h g PR
 |_,.exit id,e,h,g,PR=>PR (.exit id) e h g|_,.ret,e,h,g,PR=>PR .ret e h g|bi,.scope b,e,h,g,PR=>oE cf cp un fr rd QE bi b e h g PR
def asO (PR:Ex->bT->List AD->AN α) (e:bT):Ex->bT->List AD->Option Ex->AN α
 |.exit _,_,_,_=>.fail 93|.normal,_,h,none=>PR .normal e h|.normal,_,h,some x=>PR x e h|.ret,_,h,none=>PR .normal e h|.ret,_,h,some x=>PR x e h
def MJ:List V->Nat->bT
 |[],_=>[]|v::vs,i=>(i,v)::MJ vs (i+1)
def FC (cf:CF α):OT->bT->List AD->(bT->List AD->AN α)->AN α
 |.done,e,h,PR=>PR e h|.op o r,e,h,PR=>hJ cf [o] e h λe h=>FC cf r e h PR
 |.alt a b,e,h,PR=>.und (FC cf a e h PR) (FC cf b e h PR)
def vj (cf:CF α) (cp:CP α) (un:l7):Nat×Nat->Nat->hU->bT->List AD->(Ex->bT->List AD->AN α)->AN α
 |_,_,.skip,e,h,PR=>PR .normal e h|_,_,.reg ops,e,h,PR=>hJ cf ops e h (PR .normal)|_,_,.draw ds,e,h,PR=>xp cp ds e h (PR .normal)|_,_,.allo t,e,h,PR=>FC cf t e h (PR .normal)|_,_,.alloq t,e,h,PR=>FC (λf vs h PR=>cp true f vs h λv=>PR v h) t e h (PR .normal)
 |fr,bi,.seq a b,e,h,PR=>vj cf cp un fr bi a e h λx e h=>match x with|.normal=>vj cf cp un fr bi b e h PR|.exit i=>PR (.exit i) e h|.ret=>PR .ret e h
 |fr,bi,.cond c a b,e,h,PR=>match dR e c with
   |.kb true=>vj cf cp un fr bi a e h PR|.kb false=>vj cf cp un fr bi b e h PR
   |.bool t=>match c with|.t s=>.br t (vj cf cp un fr bi a ((s,.kb true)::e) h PR) (vj cf cp un fr bi b ((s,.kb false)::e) h PR)|_=>.br t (vj cf cp un fr bi a e h PR) (vj cf cp un fr bi b e h PR)
   |_=>.fail 69
 |fr,_,.block id b,e,h,PR=>vj cf cp un fr id b e h λx e h=>match x with|.exit i=>cond (Nat.beq i id) (PR .normal e h) (PR (.exit i) e h)|.normal=>PR .normal e h|.ret=>PR .ret e h
 |fr,bi,.loop b,e,h,PR=>match un bi with
   |0=>.loop fr (.s b) e h none λx e h _=>PR x e h
   |n+1=>Kt (vj cf cp un fr bi b) (n+1) e h PR
 |_,_,.exit id,e,h,PR=>PR (.exit id) e h|_,_,.ret,e,h,PR=>PR .ret e h|fr,bi,.scope b,e,h,PR=>vj cf cp un fr bi b e h PR
 |fr,bi,.range g ps asg body AS,e,h,PR=>match dR e g with
   |.fn f [] ys=>match Eb AS f with
     |some it=>cond (Nat.ble (cj ys+1) it.ntmps) (.all λl=>oE cf cp un (fr.1,cj h) ⟨ps,asg,body,e,l⟩ (λvs h PR=>cond (Nat.beq (cj vs) (cj ps)) (vj cf cp un (fr.1,cj h) bi asg (rR e ps vs) h λx e1 M=>match x with
           |.normal=>vj cf cp un (fr.1,cj h) bi body e1 M λx _ Q=>PR x Q
           |_=>.fail 94) (.fail 95)) 0 it.body ((0,.yl l)::MJ ys 1) h none (asO PR e)) (.fail 96)
     |none=>.fail 97
   |_=>.fail 98
def vh (e:bT) (h:List AD):List C2->(List V->AN α)->AN α
 |[],PR=>PR []|.tmp t::l,PR=>jA true (ku e t) λv=>vh e h l λvs=>PR (v::vs)
 |.cell t n::l,PR=>match n with
   |none=>XH true h (ku e t) (match Jt h (ku e t) with
     |some v=>vh e h l λvs=>PR (v::vs)
     |none=>.fail 70)
   |some n=>XH true h (ku e t) (match Wx h n (ku e t) with
     |some cs=>vh e h l λvs=>PR (.agg cs::vs)
     |none=>.fail 71)
def uQ:List V->V
 |[v]=>v|vs=>.tup vs
def oZ (cf:CF α) (cp:CP α) (un:l7) (lv:Nat) (sf:aJ) (args:List V) (h:List AD) (PR:V->List AD->AN α):AN α :=
 cond (Nat.ble (cj args) sf.ntmps) (vj cf cp un (lv,cj h) 0 sf.body (MJ args 0) h λx e h=>match x with|.exit _=>.fail 72|_=>vh e h sf.res λvs=>PR (uQ vs) (undead h)) (.fail 73)
def b9 (cs:List V) (off e:Nat):Nat->List V:=λi=>(cs.drop (off+i*e)).take e
def tO (v:V):V:=cond v.fc v .any
def mE (h:List AD):Nat->V->V
 |0,_=>.any
 |fu+1,v=>match v with
   |.int k n=>.int k n|.bool b=>.bool b|.kb b=>.bool b|.str s=>.str s|.sl n f=>.sl n f|.sq n m f=>.sq n m f|.pd cs=>.pd cs|.ns=>.sl 0 λ_=>[]
   |.agg cs=>.agg (cs.map (mE h fu))|.fn f xs ys=>.fn f (xs.map (mE h fu)) (ys.map (mE h fu))
   |.pl k off=>match gZ h k with|some (.cells cs _)=>cond (Nat.ble off (cj cs)) (.pd ((cs.drop off).map λv=>tO (mE h fu v))) .any|_=>.any
   |.gs k n=>match gZ h k with|some (.gl _ n' f _)=>cond (Nat.ble n n') (.sl n λi=>(f i).map λv=>tO (mE h fu v)) .any|_=>.any
   |.ss k off n c=>match gZ h k with
     | some (.cells cs _)=>cond (Nat.ble n 9223372036854775807&&(Nat.ble n c&&Nat.ble (off+n*((cj cs-off) / c)) (cj cs)))
        (.sq n c (b9 (cs.map λv=>tO (mE h fu v)) off ((cj cs-off) / c))) .any
     |_=>.any
   |_=>.any
def EZ:V->V
 |.int k n=>.int k n|.bool b=>.bool b|.kb b=>.bool b|.str s=>.str s|.sl n f=>.sl n f|.pd cs=>.pd cs|_=>.any
def lL (f:be):Nat->List V:=λi=>(f i).map EZ
def Jb (h:List AD) (k n:Nat):V:=match gZ h k with|some (.gl e _ f _)=>cond (Nat.beq e 6) (mE h 11 (.gs k n)) (.sl n (lL f))|_=>.any
def Jk (h:List AD):V->V
 |.gs k n=>Jb h k n|v=>mE h 11 v
def tK (h:List AD):V->V
 |.gs k n=>Jb h k n|.agg cs=>.agg (cs.map (Jk h))|v=>mE h 12 v
def JN (h:List AD) (k n:Nat):List (Nat×Nat):=match gZ h k with|some (.gl _ n' _ _)=>[(n,n')]|_=>[]
def acw (h:List AD):V->List (Nat×Nat)
 |.gs k n=>JN h k n|_=>[]
def PG (h:List AD):List V->List (Nat×Nat)
 |[]=>[]|v::vs=>zd (acw h v) (PG h vs)
def aeT (h:List AD):V->List (Nat×Nat)
 |.gs k n=>JN h k n|.agg cs=>PG h cs|_=>[]
def rQ (h:List AD):List V->List (Nat×Nat)
 |[]=>[]|v::vs=>zd (aeT h v) (rQ h vs)
def IV:List (Nat×Nat)->AN α->AN α
 |[],x=>x|p::l,x=>.ob (Nat.ble p.1 p.2) (IV l x)
end
end Go.Dx
namespace Go.Sx
inductive AI where|v (a:ak)|ag (ds:List AI)|sl (esz:Nat) (els:List (List AI))|pt (ds:List AI)|fn (f:FuncId) (xs ys:List AI)
def bM:ak->Bool
 |.int ..|.bool ..|.str ..=>true|_=>false
def AI.isC:AI->Bool
 |.v _|.sl ..|.pt _=>true|_=>false
def HU (lh:List ar):Option js->Prop
 |some (.l k _)=>isCells lh[k]? = true|_=>True
section
variable (w0:World) (lh:List ar)
mutual
def rd:AI->ak->Prop
 |.v b,a=>bM b=true/\a=b|.ag ds,a=>∃cs,a=.agg cs/\LC ds cs|.sl esz els,a=>∃p c,a=.slice p els.length c/\els.length<=9223372036854775807/\HU lh p/\LN els esz p 0|.pt ds,a=>∃p cs,a=.ptr (some p)/\lds w0 lh p ds.length=some cs/\LC ds cs|.fn f xs ys,a=>∃us vs,a=.fn (.func f) us vs/\Ox xs us/\Ox ys vs
def Ox:List AI->List ak->Prop
 |[],cs=>cs=[]|d::ds,cs=>∃x xs,cs=x::xs/\rd d x/\Ox ds xs
def LC:List AI->List ak->Prop
 |[],cs=>cs=[]|d::ds,cs=>∃x xs,cs=x::xs/\d.isC=true/\rd d x/\LC ds xs
def LN:List (List AI)->Nat->Option js->Nat->Prop
 |[],_,_,_=>True|e::es,esz,p,i=>(∃PX cs,p=some PX/\lds w0 lh (PX.add (i*esz)) esz=some cs/\LC e cs)/\LN es esz p (i+1)
end
end
def plain:ak->Bool
 |.agg cs=>cs.all bM
 |.tup cs=>cs.all λ|.agg ds=>ds.all bM|a=>bM a
 |a=>bM a
theorem ry {m m':aN} {a:ak} {v:Value} (hs:bM a=true) (h:AW m a v):AW m' a v:=by cases a<;>simp[bM]at hs<;>first|(simp[AW]at h ⊢;exact h)|cases hs
theorem ko {m m':aN}:∀ {az:List ak} {vs:List Value},az.all bM=true->aE m az vs->aE m' az vs
 |[],_,_,h=>by simp[aE]at h ⊢;exact h
 |a::az,_,hs,h=>by simp only[Dj,Ae]at hs;simp only[aE]at h ⊢;obtain⟨u,us,rfl,M,Q⟩:=h;exact⟨u,us,rfl,ry hs.1 M,ko hs.2 Q⟩
theorem hnr {m m':aN} {a:ak} {v:Value} (hs:(match a with|.agg ds=>ds.all bM|a=>bM a)=true) (h:AW m a v):AW m' a v:=by
 cases a with
 |agg cs=>simp[AW]at h ⊢;obtain⟨vs,rfl,h⟩:=h;exact⟨vs,rfl,ko hs h⟩|_=>exact ry hs h
theorem hlW {m m':aN}:∀ {az:List ak} {vs:List Value},(az.all λ|.agg ds=>ds.all bM|a=>bM a)=true->aE m az vs->aE m' az vs
 |[],_,_,h=>by simp[aE]at h ⊢;exact h
 |a::az,_,hs,h=>by simp only[Dj,Ae]at hs;simp only[aE]at h ⊢;obtain⟨u,us,rfl,M,Q⟩:=h;exact⟨u,us,rfl,hnr hs.1 M,hlW hs.2 Q⟩
theorem hpm {m m':aN} {a:ak} {v:Value} (hs:plain a=true) (h:AW m a v):AW m' a v:=by
 cases a with
 |agg cs=>simp[AW]at h ⊢;obtain⟨vs,rfl,h⟩:=h;exact⟨vs,rfl,ko hs h⟩|tup cs=>simp[AW]at h ⊢;obtain⟨vs,rfl,h⟩:=h;exact⟨vs,rfl,hlW hs h⟩|_=>exact ry hs h
theorem uN {p:Nat->Prop} {a:ak} (hs:bM a=true):l8 p a:=by cases a<;>first|(simp only[l8];done)|(simp only[bM]at hs;cases hs)
theorem rv {p:Nat->Prop}:∀ {az:List ak},az.all bM=true->kv p az
 |[],_=>by simp[kv]
 |a::az,hs=>by simp only[Dj,Ae]at hs;simp only[kv];exact⟨uN hs.1,rv hs.2⟩
theorem R59 {p:Nat->Prop}:∀ {az:List ak},(az.all λ|.agg ds=>ds.all bM|a=>bM a)=true->kv p az
 |[],_=>by simp[kv]
 |a::az,hs=>by
   simp only[Dj,Ae]at hs;simp only[kv];refine⟨?_,R59 hs.2⟩;cases a with
   |agg cs=>simp[l8];exact rv hs.1|_=>exact uN hs.1
theorem hza {p:Nat->Prop} {a:ak} (hs:plain a=true):l8 p a:=by
 cases a with
 |agg cs=>simp[l8];exact rv hs|tup cs=>simp[l8];exact R59 hs|_=>exact uN hs
section
variable {B:dN} {m:aN} {lh:List ar} {w:World}
theorem kY {w:World} {a:Addr}:∀ (vs:List Value) (i:Nat),(∀ j v,vs[j]? = some v->w.cell? (a.add (i+j))=some v)->gT w a i vs.length=some (vs.map bV)
 |[],i,_=>rfl
 |v::vs,i,h=>by have h0:=h 0 v rfl;simp[Ej]at h0;have ih:=kY vs (i+1) (λj u hu=>by have:=h (j+1) u (by simpa using hu);rw[← this];congr 2;omega);simp[Dl,gT,h0,ih,DX]
theorem zx (h:bk B m lh w) {p:js} {PX:Option Addr} (hq:ef m (some p) PX) {n:Nat} {xs:List ak} (hx:lds B.w0 lh p n=some xs) :
 ∃a us,PX=some a/\lds w [] (.g a) n=some (us.map bV)/\aE m xs us:=by
 cases p with
 |l k off=>
   simp[lds]at hx;split at hx
   ·rename_i cs ty hk
    split at hx
    ·rename_i Qm
     cases hx;obtain⟨b,hb,rfl⟩:=hq
     let ⟨b',vs,QX,Qh,hh,_⟩:=h.loc k cs ty hk
     rw[hb]at QX;cases QX;have hl:=c9 Qh;have hr:=fM n (gD off Qh);have hn:((vs.toList.drop off).take n).length=n:=by simp at hl ⊢;omega
     refine⟨_,(vs.toList.drop off).take n,rfl,?_,hr⟩;have:=kY (w:=w) (a:=⟨b,off,none⟩) ((vs.toList.drop off).take n) 0 (λj v hv=>by
      rw[nD];rw[E5]at hv;split at hv
      ·rw[EU]at hv;simp[World.cell?,hh];simpa using hv
      ·cases hv)
     rw[hn]at this;exact this
    ·cases hx
   ·cases hx
 |g a=>simp[ef]at hq;subst hq;obtain⟨vs,rfl,Q,h3⟩:=e9 n 0 xs hx;refine⟨a,vs,rfl,?_,cz m vs⟩;have:=kY (w:=w) (a:=a) vs 0 (λj v hv=>h.cell_g (h3 j v hv));rw[Q]at this;exact this
theorem bk.back (h:bk B m lh w) {m1:aN} {lh1:List ar} {w':World} (h':bk ⟨w,w,λ_=>False,[]⟩ m1 lh1 w'):bk B m lh w':=by
 have hold:∀b,b<w.heap.size->w'.heap[b]? = w.heap[b]? := λb hb=>h'.old b hb;have Qu:w.heap.size<=w'.heap.size:=h'.size;refine⟨h'.os.trans h.os,h'.tape.trans h.tape,h'.output.trans h.output,E0 h.size Qu,λb hb=>?_,E0 h.fsize Qu,λb hb ho=>?_,λk cs ty hk=>?_,h.inj,h.dom,h.dead,λk b hb=>ET (h.rng k b hb) Qu⟩
 ·rw[hold b (ET hb h.size)];exact h.old b hb
 ·rw[hold b (ET hb h.fsize)];exact h.kept b hb ho
 ·let ⟨b,vs,M,Q,h3,h4⟩:=h.loc k cs ty hk
  exact⟨b,vs,M,Q,by rw[hold b (h.rng k b M)];exact h3,h4⟩
end
end Go.Sx
namespace Go.Dx
open Go.Sx
structure Nu where
 m:Nat->Option (Option (Nat×Nat×Nat))
 z:List ar
instance:CoeFun Nu λ_=>Nat->Option (Option (Nat×Nat×Nat)):=⟨Nu.m⟩
def w6 (a b:List ar):Prop:=∀(k:Nat) (az:List ak) (ty:TypeId),a[k]? = some (ar.cells az ty)->b[k]? = some (ar.cells az ty)
theorem ni (a:List ar):w6 a a:=λ_ _ _ h=>h
theorem av8 (a:List ar):w6 [] a:=λ_ _ _ h=>by simp at h
theorem qq {a b c:List ar} (h:w6 a b) (k:w6 b c):w6 a c:=λi az ty hx=>k i az ty (h i az ty hx)
def Nu.nil:Nu:=⟨λ_=>none,[]⟩
def Nu.sub (ν ν':Nu):Prop:=(∀k x,ν k=some x->ν' k=some x)/\w6 ν.z ν'.z
theorem Nu.nil_sub (ν:Nu):Nu.nil.sub ν:=⟨λ_ _ h=>by(cases h),av8 _⟩
theorem Nu.sub_refl (ν:Nu):ν.sub ν:=⟨λ_ _ h=>h,ni _⟩
theorem Nu.sub_trans {a b c:Nu} (h:a.sub b) (k:b.sub c):a.sub c:=⟨λi x hx=>k.1 i x (h.1 i x hx),qq h.2 k.2⟩
def Ky (lh:List ar):Option js->Prop
 |some (.l k off)=>∃cs ty,lh[k]? = some (ar.cells cs ty)/\off<=cs.length|_=>True
mutual
def vr (w0:World) (lh:List ar) (ν:Nu):V->ak->Prop
 |.int k n,a=>a=.int k n|.bool b,a=>a=.bool b|.kb b,a=>a=.bool b|.str s,a=>a=.str s|.agg cs,a=>∃az,a=.agg az/\bK w0 lh ν cs az|.tup cs,a=>∃az,a=.tup az/\bK w0 lh ν cs az|.fn f xs ys,a=>∃us vs,a=.fn (.func f) us vs/\bK w0 lh ν xs us/\bK w0 lh ν ys vs|.sl n f,a=>∃p c esz,a=.slice p n c/\n<=c/\n<=9223372036854775807/\Ky lh p/\∀i,i<n->∃PX az,p=some PX/\lds w0 lh (PX.add (i*esz)) esz=some az/\bK w0 lh Nu.nil (f i) az/\(f i).all V.fc=true|.sq n m f,a=>∃p c esz,a=.slice p n c/\(n<=c/\n<=m)/\n<=9223372036854775807/\Ky lh p/\∀i,i<n->∃PX az,p=some PX/\lds w0 lh (PX.add (i*esz)) esz=some az/\bK w0 lh Nu.nil (f i) az/\(f i).all V.fc=true|.pd cs,a=>∃p az,a=.ptr (some p)/\HU lh (some p)/\lds w0 lh p cs.length=some az/\bK w0 lh Nu.nil cs az/\cs.all V.fc=true|.pl k off,a=>∃b c e,ν k=some (some (b,c,e))/\a=.ptr (some (.l b off))|.pe k i j,a=>∃b c e,ν k=some (some (b,c,e))/\a=.ptr (some (.l b (i*e+j)))|.ss k off n c,a=>∃b c' e,ν k=some (some (b,c',e))/\a=.slice (some (.l b off)) n c|.gs k n,a=>(ν k=some none/\n=0/\a=.slice none 0 0)∨∃b c e,ν k=some (some (b,c,e))/\a=.slice (some (.l b 0)) n c/\n<=c|.ns,a=>a=.slice none 0 0|.np,a=>a=.ptr none|.any,_=>True|.gd b v,a=>(b=true->vr w0 lh ν v a)/\(b=false->∃l,a=.tup l)|.yl l,a=>a=kw l|.go k off n,a=>(ν k=some none/\n=0/\off=0/\a=.slice none 0 0)∨∃b c e o,ν k=some (some (b,c,e))/\a=.slice (some (.l b o)) n (c-off)/\(off+n<=c/\o<=c*e)/\(0<n->o=off*e)
def bK (w0:World) (lh:List ar) (ν:Nu):List V->List ak->Prop
 |[],az=>az=[]|v::vs,az=>∃x xs,az=x::xs/\vr w0 lh ν v x/\bK w0 lh ν vs xs
end
section lists
variable {α β:Type}
theorem bw:∀ (l:List α) (i:Nat),gZ l i=l[i]?
 |[],_=>by simp[gZ]
 |_::_,0=>by simp[gZ]
 |_::l,i+1=>by simp[gZ,bw l i]
theorem jj:∀ (l:List α) (i:Nat) (b:α),Fz l i b=l.set i b
 |[],_,_=>rfl|_::_,0,_=>rfl|_::l,i+1,b=>by simp[Fz,jj l i b]
theorem zb:∀ (l:List α) (b:α),Ik l b=l++[b]
 |[],_=>rfl|_::l,b=>by simp[Ik,zb l b]
theorem mJ:∀ (l b:List α),zd l b=l++b
 |[],_=>rfl|_::l,b=>by simp[zd,mJ l b]
theorem ca:∀ (l:List α),cj l=l.length
 |[]=>rfl|_::l=>by simp[cj,ca l]
theorem xw:∀ {n:Nat} {l r:List α},tz n l=some r->n<=l.length/\r=l.drop n
 |0,l,r,h=>by simp[tz]at h;simp[h]
 |n+1,[],r,h=>by simp[tz]at h
 |n+1,_::l,r,h=>by
   simp[tz]at h
   let ⟨M,Q⟩:=xw h
   exact⟨by simp;exact M,by simpa using Q⟩
theorem y5:∀ {n:Nat} {l r:List α},yU n l=some r->n<=l.length/\r=l.take n
 |0,l,r,h=>by simp[yU]at h;simp[h]
 |n+1,[],r,h=>by simp[yU]at h
 |n+1,a::l,r,h=>by
   simp[yU]at h;split at h
   ·rename_i r' hr
    cases h
    let ⟨M,Q⟩:=y5 hr
    exact⟨by simp;exact M,by simp[Q]⟩
   ·cases h
theorem tS {l r:List α} {off n:Nat} (h:GQ l off n=some r):off+n<=l.length/\r=(l.drop off).take n:=by
 unfold GQ at h;split at h
 ·rename_i r' hr;obtain⟨M,rfl⟩:=xw hr;obtain⟨h3,rfl⟩:=y5 h;simp at h3;exact⟨K,rfl⟩
 ·cases h
end lists
section
variable {w0:World} {lh:List ar} {ν ν':Nu}
mutual
theorem pY (hn:∀ k x,ν k=some x->ν' k=some x):∀ (v:V) (a:ak),vr w0 lh ν v a->vr w0 lh ν' v a
 |.int ..,a,h=>by simp[vr]at h ⊢;exact h
 |.bool ..,a,h=>by simp[vr]at h ⊢;exact h
 |.kb ..,a,h=>by simp[vr]at h ⊢;exact h
 |.str ..,a,h=>by simp[vr]at h ⊢;exact h
 |.agg cs,a,h=>by simp[vr]at h ⊢;let ⟨az,M,Q⟩:=h;exact⟨az,M,iM hn cs az Q⟩
 |.tup cs,a,h=>by simp[vr]at h ⊢;let ⟨az,M,Q⟩:=h;exact⟨az,M,iM hn cs az Q⟩
 |.fn f xs ys,a,h=>by simp[vr]at h ⊢;let ⟨us,vs,M,Q,h3⟩:=h;exact⟨us,vs,M,iM hn xs us Q,iM hn ys vs h3⟩
 |.sl n f,a,h=>by
   simp[vr]at h ⊢
   let ⟨p,c,esz,M,Q,h3,h4,h5⟩:=h
   exact⟨p,c,esz,M,Q,h3,h4,λi hi=>let ⟨PX,az,g1,g2,g3⟩:=h5 i hi;⟨PX,az,g1,g2,g3⟩⟩
 |.sq n m f,a,h=>by
   simp[vr]at h ⊢
   let ⟨p,c,esz,M,Q,h3,h4,h5⟩:=h
   exact⟨p,c,esz,M,Q,h3,h4,λi hi=>let ⟨PX,az,g1,g2,g3⟩:=h5 i hi;⟨PX,az,g1,g2,g3⟩⟩
 |.pd cs,a,h=>by simp[vr]at h ⊢;let ⟨p,az,M,Q,h3,h4⟩:=h;exact⟨p,az,M,Q,h3,h4⟩
 |.pl k off,a,h=>by simp only[vr]at h ⊢;let ⟨b,c,e,M,Q⟩:=h;exact⟨b,c,e,hn _ _ M,Q⟩
 |.pe k i j,a,h=>by simp[vr]at h ⊢;let ⟨b,c,e,M,Q⟩:=h;exact⟨b,c,e,hn _ _ M,Q⟩
 |.ss k off n c,a,h=>by simp only[vr]at h ⊢;let ⟨b,c',e,M,Q⟩:=h;exact⟨b,c',e,hn _ _ M,Q⟩
 |.gs k n,a,h=>by
   simp only[vr]at h ⊢;rcases h with ⟨M,Q⟩|⟨b,c,e,M,Q⟩
   ·exact .inl ⟨hn _ _ M,Q⟩
   ·exact .inr ⟨b,c,e,hn _ _ M,Q⟩
 |.ns,a,h=>by simp[vr]at h ⊢;exact h
 |.np,a,h=>by simp[vr]at h ⊢;exact h
 |.any,a,h=>by simp[vr]
 |.gd b v,a,h=>by simp[vr]at h ⊢;exact⟨λe=>pY hn v a (h.1 e),h.2⟩
 |.yl l,a,h=>by simp[vr]at h ⊢;exact h
 |.go k off n,a,h=>by
   simp only[vr]at h ⊢;rcases h with ⟨M,Q⟩|⟨b,c,e,o,M,Q⟩
   ·exact .inl ⟨hn _ _ M,Q⟩
   ·exact .inr ⟨b,c,e,o,hn _ _ M,Q⟩
theorem iM (hn:∀ k x,ν k=some x->ν' k=some x):∀ (vs:List V) (az:List ak),bK w0 lh ν vs az->bK w0 lh ν' vs az
 |[],az,h=>by simp[bK]at h ⊢;exact h
 |v::vs,az,h=>by simp[bK]at h ⊢;let ⟨x,xs,M,Q,h3⟩:=h;exact⟨x,xs,M,pY hn v x Q,iM hn vs xs h3⟩
end
theorem anG (hn:ν.sub ν') (v:V) (a:ak) (h:vr w0 lh ν v a):vr w0 lh ν' v a:=pY hn.1 v a h
theorem lE (hn:ν.sub ν') (v:List V) (a:List ak) (h:bK w0 lh ν v a):bK w0 lh ν' v a:=iM hn.1 v a h
theorem yH {lh lh':List ar} (hz:w6 lh lh') {p:js} {n:Nat} {az:List ak} (h:lds w0 lh p n=some az):lds w0 lh' p n=some az:=by
 cases p with
 |g a=>exact h
 |l k off=>
   simp[lds]at h ⊢;cases hk:lh[k]? with
   |none=>rw[hk]at h;cases h
   |some o=>
     cases o with
     |dead=>rw[hk]at h;cases h|hid=>rw[hk]at h;cases h|cells cs ty=>rw[hz k cs ty hk];rw[hk]at h;exact h
theorem amG {lh lh':List ar} (hz:w6 lh lh') {p:Option js} (h:HU lh p):HU lh' p:=by
 cases p with
 |none=>trivial
 |some p=>
   cases p with
   |g a=>trivial
   |l k off=>
     simp[HU]at h ⊢;cases hk:lh[k]? with
     |none=>rw[hk]at h;cases h
     |some o=>
       cases o with
       |dead=>rw[hk]at h;cases h|hid=>rw[hk]at h;cases h|cells cs ty=>rw[hz k cs ty hk];rfl
theorem fnQ {lh lh':List ar} (hz:w6 lh lh') {p:Option js} (h:Ky lh p):Ky lh' p:=by
 cases p with
 |none=>trivial
 |some p=>
   cases p with
   |g a=>trivial|l k off=>let ⟨cs,ty,M,Q⟩:=h;exact⟨cs,ty,hz k cs ty M,Q⟩
theorem jmp {lh:List ar} {p:js} {n:Nat} {az:List ak} (h:lds w0 lh p n=some az):HU lh (some p):=by
 cases p with
 |g a=>trivial
 |l k off=>
   simp[lds]at h;simp[HU];cases hk:lh[k]? with
   |none=>rw[hk]at h;cases h
   |some o=>
     cases o with
     |dead=>rw[hk]at h;cases h|hid=>rw[hk]at h;cases h|cells cs ty=>rfl
mutual
theorem nJ {lh lh':List ar} (hz:w6 lh lh'):∀ {ν:Nu} (v:V) (a:ak),vr w0 lh ν v a->vr w0 lh' ν v a
 |_,.int ..,a,h=>by simp[vr]at h ⊢;exact h
 |_,.bool ..,a,h=>by simp[vr]at h ⊢;exact h
 |_,.kb ..,a,h=>by simp[vr]at h ⊢;exact h
 |_,.str ..,a,h=>by simp[vr]at h ⊢;exact h
 |_,.agg cs,a,h=>by simp[vr]at h ⊢;let ⟨az,M,Q⟩:=h;exact⟨az,M,lK hz cs az Q⟩
 |_,.tup cs,a,h=>by simp[vr]at h ⊢;let ⟨az,M,Q⟩:=h;exact⟨az,M,lK hz cs az Q⟩
 |_,.fn f xs ys,a,h=>by simp[vr]at h ⊢;let ⟨us,vs,M,Q,h3⟩:=h;exact⟨us,vs,M,lK hz xs us Q,lK hz ys vs h3⟩
 |_,.sl n f,a,h=>by
   simp only[vr]at h ⊢
   let ⟨p,c,esz,M,Q,h3,h4,h5⟩:=h
   exact⟨p,c,esz,M,Q,h3,fnQ hz h4,λi hi=>let ⟨PX,az,g1,g2,g3,g4⟩:=h5 i hi;⟨PX,az,g1,yH hz g2,lK hz (f i) az g3,g4⟩⟩
 |_,.sq n m f,a,h=>by
   simp only[vr]at h ⊢
   let ⟨p,c,esz,M,Q,h3,h4,h5⟩:=h
   exact⟨p,c,esz,M,Q,h3,fnQ hz h4,λi hi=>let ⟨PX,az,g1,g2,g3,g4⟩:=h5 i hi;⟨PX,az,g1,yH hz g2,lK hz (f i) az g3,g4⟩⟩
 |_,.pd cs,a,h=>by simp only[vr]at h ⊢;let ⟨p,az,M,Q,h3,h4,h5⟩:=h;exact⟨p,az,M,amG hz Q,yH hz h3,lK hz cs az h4,h5⟩
 |_,.pl k off,a,h=>by simp[vr]at h ⊢;exact h
 |_,.pe k i j,a,h=>by simp[vr]at h ⊢;exact h
 |_,.ss k off n c,a,h=>by simp[vr]at h ⊢;exact h
 |_,.gs k n,a,h=>by simp[vr]at h ⊢;exact h
 |_,.ns,a,h=>by simp[vr]at h ⊢;exact h
 |_,.np,a,h=>by simp[vr]at h ⊢;exact h
 |_,.any,a,h=>by simp[vr]
 |_,.gd b v,a,h=>by simp[vr]at h ⊢;exact⟨λe=>nJ hz v a (h.1 e),h.2⟩
 |_,.yl l,a,h=>by simp[vr]at h ⊢;exact h
 |_,.go k off n,a,h=>by simp[vr]at h ⊢;exact h
theorem lK {lh lh':List ar} (hz:w6 lh lh'):∀ {ν:Nu} (vs:List V) (az:List ak),bK w0 lh ν vs az->bK w0 lh' ν vs az
 |_,[],az,h=>by simp[bK]at h ⊢;exact h
 |_,v::vs,az,h=>by simp[bK]at h ⊢;let ⟨x,xs,M,Q,h3⟩:=h;exact⟨x,xs,M,nJ hz v x Q,lK hz vs xs h3⟩
end
theorem ady (hn:ν.sub ν') (v:V) (a:ak) (h:vr w0 ν.z ν v a):vr w0 ν'.z ν' v a:=anG hn v a (nJ hn.2 v a h)
theorem FX (hn:ν.sub ν') (v:List V) (a:List ak) (h:bK w0 ν.z ν v a):bK w0 ν'.z ν' v a:=lE hn v a (lK hn.2 v a h)
theorem b5:∀ {vs:List V} {az:List ak},bK w0 lh ν vs az->az.length=vs.length
 |[],_,h=>by simp[bK]at h;subst h;rfl
 |_::_,_,h=>by simp[bK]at h;obtain⟨x,xs,rfl,_,h3⟩:=h;simp[b5 h3]
theorem oN:∀ {vs:List V} {az:List ak} {i:Nat} {v:V},bK w0 lh ν vs az->vs[i]? = some v->∃ a,az[i]? = some a/\vr w0 lh ν v a
 |[],_,_,_,_,h=>by simp at h
 |_::_,_,0,_,hr,h=>by simp[bK]at hr;obtain⟨x,xs,rfl,Q,_⟩:=hr;simp at h;subst h;exact⟨x,rfl,Q⟩
 |_::_,_,i+1,_,hr,h=>by
   simp[bK]at hr;obtain⟨x,xs,rfl,_,h3⟩:=hr;simp at h
   let ⟨a,h4,h5⟩:=oN h3 h
   exact⟨a,by simpa using h4,h5⟩
theorem g8:∀ {vs:List V} {az:List ak} (n:Nat),bK w0 lh ν vs az->bK w0 lh ν (vs.drop n) (az.drop n)
 |vs,az,0,h=>by simpa using h
 |[],az,n+1,h=>by simp[bK]at h;subst h;simp[bK]
 |_::_,az,n+1,h=>by simp[bK]at h;obtain⟨x,xs,rfl,_,h3⟩:=h;simpa using g8 n h3
theorem jl:∀ {vs:List V} {az:List ak} (n:Nat),bK w0 lh ν vs az->bK w0 lh ν (vs.take n) (az.take n)
 |vs,az,0,h=>by simp[bK]
 |[],az,n+1,h=>by simp[bK]at h;subst h;simp[bK]
 |_::_,az,n+1,h=>by simp[bK]at h;obtain⟨x,xs,rfl,Q,h3⟩:=h;simp only[List.take_succ_cons,bK];exact⟨_,_,rfl,Q,jl n h3⟩
theorem lY:∀ {vs vs':List V} {az as':List ak},bK w0 lh ν vs az->bK w0 lh ν vs' as'->bK w0 lh ν (vs++vs') (az++as')
 |[],_,_,_,h,h'=>by simp[bK]at h;subst h;simpa using h'
 |_::_,_,_,_,h,h'=>by simp[bK]at h;obtain⟨x,xs,rfl,Q,h3⟩:=h;simp only[J0,bK];exact⟨_,_,rfl,Q,lY h3 h'⟩
theorem qF {α:Type}:∀ {cs:List α} {off:Nat} {xs r:List α},sg cs off xs=some r->off+xs.length<=cs.length/\r.length=cs.length
 |cs,0,[],r,h=>by simp[sg]at h;simp[h]
 |[],0,x::xs,r,h=>by simp[sg]at h
 |c::cs,0,x::xs,r,h=>by
   simp[sg]at h;split at h
   ·rename_i r' hr;cases h;have:=qF hr;simp at this ⊢;omega
   ·cases h
 |[],off+1,xs,r,h=>by simp[sg]at h
 |c::cs,off+1,xs,r,h=>by
   simp[sg]at h;split at h
   ·rename_i r' hr;cases h;have:=qF hr;simp at this ⊢;omega
   ·cases h
theorem Bi (c:ak):∀ (xs cs:List ak) (off:Nat),wr (c::cs) (off+1) xs=c::wr cs off xs
 |[],_,_=>rfl|x::xs,cs,off=>by simp[wr,List.set_cons_succ];exact Bi c xs _ _
theorem yX:∀ {cs:List V} {off:Nat} {xs:List V} {us:List ak} {az:List ak} {r:List V},bK w0 lh ν cs az->bK w0 lh ν xs us->sg cs off xs=some r->bK w0 lh ν r (wr az off us)
 |cs,0,[],us,az,r,h,hx,hw=>by simp[bK]at hx;subst hx;simp[sg]at hw;subst hw;exact h
 |[],0,x::xs,us,az,r,h,hx,hw=>by simp[sg]at hw
 |c::cs,0,x::xs,us,az,r,h,hx,hw=>by
   simp[bK]at hx h;obtain⟨u,us,rfl,M,Q⟩:=hx;obtain⟨a,az,rfl,h3,h4⟩:=h;simp[sg]at hw;split at hw
   ·rename_i r' hr;cases hw;simp[wr,List.set_cons_zero];rw[Bi];simp only[bK];exact⟨_,_,rfl,M,yX h4 Q hr⟩
   ·cases hw
 |[],off+1,xs,us,az,r,h,hx,hw=>by simp[sg]at hw
 |c::cs,off+1,xs,us,az,r,h,hx,hw=>by
   simp[bK]at h;obtain⟨a,az,rfl,h3,h4⟩:=h;simp[sg]at hw;split at hw
   ·rename_i r' hr;cases hw;rw[Bi];simp only[bK];exact⟨_,_,rfl,h3,yX h4 hx hr⟩
   ·cases hw
theorem fu4 (a:ak):vr w0 lh ν (I0 a) a:=by unfold I0;split<;>simp only[vr,bK];exact⟨_,_,rfl,rfl,rfl⟩
theorem qC:∀ l:List ak,bK w0 lh ν (l.map I0) l
 |[]=>by simp[bK]
 |a::l=>by simp only[DX,bK];exact⟨_,_,rfl,fu4 a,qC l⟩
theorem anB {v:V} {a:ak} (h:vr w0 lh ν v a) (M:v.one=true):a.one=true:=by
 cases v<;>simp only[vr]at h
 case gs=>rcases h with ⟨_,_,h⟩|⟨_,_,_,_,h,_⟩<;>(subst h;rfl)
 case go=>rcases h with ⟨_,_,_,h⟩|⟨_,_,_,_,_,h,_⟩<;>(subst h;rfl)
 all_goals first
  |(simp[V.one]at M;done)|(subst h;rfl)|(obtain⟨_,_,rfl,_⟩:=h;rfl)|(obtain⟨_,_,_,rfl,_⟩:=h;rfl)|(obtain⟨_,_,_,_,rfl⟩:=h;rfl)
theorem ls:∀ {vs:List V} {az:List ak},bK w0 lh ν vs az->vs.all V.one=true->az.all ak.one=true
 |[],_,h,_=>by simp[bK]at h;subst h;rfl
 |_::_,_,h,M=>by simp[bK]at h;obtain⟨x,xs,rfl,Q,h3⟩:=h;simp only[Dj,Ae]at M ⊢;exact⟨anB Q M.1,ls h3 M.2⟩
theorem yd {v:V} {a:ak} (h:vr w0 lh ν v a) (M:v.flat=true):a.flat=true/\bK w0 lh ν v.cells a.cells:=by
 by_cases hv:∃cs,v=.agg cs
 ·obtain⟨cs,rfl⟩:=hv;simp[vr]at h;obtain⟨az,rfl,Q⟩:=h;exact⟨ls Q M,Q⟩
 ·have Q:v.one=true:=by
   cases v<;>first|exact M|exact(hv ⟨_,rfl⟩).elim
  have h3:=anB h Q;have h4:v.cells=[v]:=by cases v<;>first|rfl|exact(hv ⟨_,rfl⟩).elim
  have h5:a.cells=[a]/\a.flat=true:=by cases a<;>first|exact⟨rfl,h3⟩|(simp[ak.one]at h3)
  refine⟨h5.2,?_⟩;rw[h4,h5.1];simp only[bK];exact⟨_,_,rfl,h,rfl⟩
structure gY (w0:World) (ν:Nu) (Pn:Nat) (e:bT) (sl:List ak):Prop where
 len:sl.length=Pn
 at':∀i,vr w0 ν.z ν (ku e i) (sl.getD i .any)
theorem gY.mono {Pn:Nat} {e:bT} {sl:List ak} (h:gY w0 ν Pn e sl) (hn:ν.sub ν'):gY w0 ν' Pn e sl:=⟨h.len,λi=>ady hn _ _ (h.at' i)⟩
theorem gY.arg {Pn:Nat} {e:bT} {sl:List ak} (h:gY w0 ν Pn e sl) (x:gn):vr w0 ν.z ν (dR e x) (arg sl x):=by
 cases x with
 |t i=>exact h.at' i|k a=>exact fu4 a
theorem nj (d:Nat) (v:V) (e:bT) (i:Nat):ku ((d,v)::e) i=if i=d then v else ku e i:=by
 simp only[ku];by_cases h:i=d
 ·subst h;simp
 ·rw [AU h]
  have:Nat.beq i d=false:=by
   cases hb:Nat.beq i d with
   |false=>rfl|true=>exact(h (Ap hb)).elim
  rw[this];rfl
theorem gY.set {Pn:Nat} {e:bT} {sl:List ak} (h:gY w0 ν Pn e sl) {d:Nat} (hd:d<Pn) {v:V} {a:ak} (hv:vr w0 ν.z ν v a):gY w0 ν Pn ((d,v)::e) (sl.set d a):=by
 refine⟨by simpa using h.len,λi=>?_⟩;rw[nj];by_cases hi:i=d
 ·subst hi;have:=h.len;rw[Ad rfl];simp[List.getD,show i<sl.length by omega];exact hv
 ·rw[AU hi];simp[List.getD,Be];rw[AU (λe=>hi e.symm)];exact h.at' i
theorem gY.put {Pn:Nat} {e:bT} {sl:List ak} (h:gY w0 ν Pn e sl) (d:Option Nat) (hd:∀ i,d=some i->i<Pn) {v:V} {a:ak} (hv:vr w0 ν.z ν v a):gY w0 ν Pn (eN e d v) (fl sl d a):=by
 cases d with
 |none=>exact h|some d=>exact h.set (hd d rfl) hv
theorem gY.know {Pn:Nat} {e:bT} {sl:List ak} (h:gY w0 ν Pn e sl) {d:Nat} {v:V} (hv:vr w0 ν.z ν v (sl.getD d .any)):gY w0 ν Pn ((d,v)::e) sl:=by
 refine⟨h.len,λi=>?_⟩;rw[nj];split
 ·rename_i hi;subst hi;exact hv
 ·exact h.at' i
theorem gY.args {Pn:Nat} {e:bT} {sl:List ak} (h:gY w0 ν Pn e sl):∀ xs:List gn,bK w0 ν.z ν (xs.map (dR e)) (xs.map (Sx.arg sl))
 |[]=>by simp[bK]
 |x::xs=>by simp only[DX,bK];exact⟨_,_,rfl,h.arg x,h.args xs⟩
end
abbrev fE:=Nat×Nat->AY->bT->List AD->Option Ex->(Ex->bT->List AD->Option Ex->Prop)->Prop
def bU {α:Type} (LP:fE):AN α->(α->Prop)->Prop
 |.ret a,Pg=>Pg a|.br b x y,Pg=>(b=true->bU LP x Pg)/\(b=false->bU LP y Pg)|.ob b x,Pg=>b=true/\bU LP x Pg|.obi c d x,Pg=>(c=true->d=true)/\bU LP x Pg|.obp p x,Pg=>p/\bU LP x Pg|.obq a b x,Pg=>a=b/\bU LP x Pg|.fail _,_=>False|.loop fr body e h g k,Pg=>LP fr body e h g λex e h g=>bU LP (k ex e h g) Pg
 |.all f,Pg=>∀l,bU LP (f l) Pg|.und x y,Pg=>bU LP x Pg/\bU LP y Pg|.asm p x,Pg=>p->bU LP x Pg
def bp (h:List AD) (k:Nat):Prop:=fk h k=true
def FQ (w0:World) (ν:Nu) (nV nS:Nat) (lh:List ar) (k:Nat):AD->Prop
 |.cells cs ty=>∃b c e az,ν k=some (some (b,c,e))/\lh[b]? = some (.cells az ty)/\bK w0 ν.z ν cs az|.gl esz n f ty=>(ν k=some none/\n=0)∨∃b c az,ν k=some (some (b,c,esz))/\lh[b]? = some (.cells az ty)/\az.length=c*esz/\(n<=c/\n<=9223372036854775807)/\∀i,i<n->nX esz (f i)=true/\bK w0 ν.z ν (f i) ((az.drop (i*esz)).take esz)|.dead=>ν k=none/\nV<=k/\lh[nS+(k-nV)]? = some .dead|.hid=>True
structure HR (w0:World) (ν:Nu) (nV nS:Nat) (h:List AD) (lh:List ar):Prop where
 blk:∀k o,h[k]? = some o->FQ w0 ν nV nS lh k o
 inj:∀k k' x x',bp h k->bp h k'->ν k=some (some x)->ν k'=some (some x')->x.1=x'.1->k=k'
 dom:∀k,h.length<=k->ν k=none
 rng:∀k x,ν k=some (some x)->x.1<lh.length
 zl:w6 ν.z lh
 zn:∀k x,bp h k->ν k=some (some x)->isCells ν.z[x.1]? = false
section
variable {w0:World} {ν ν':Nu} {nV nS:Nat} {h h':List AD} {lh lh':List ar} {α:Type} {LP:fE} {Pg:α->Prop}
theorem gz {k:Nat} (hk:bp h k):(∃ cs ty,h[k]? = some (.cells cs ty))∨∃ e n f ty,h[k]? = some (.gl e n f ty):=by
 unfold bp fk at hk;rw[bw]at hk;split at hk
 ·rename_i cs ty he;exact .inl ⟨cs,ty,he⟩
 ·rename_i e n f ty he;exact .inr ⟨e,n,f,ty,he⟩
 ·cases hk
theorem eJ {k:Nat} {cs:List V} {ty:TypeId} (hk:h[k]? = some (.cells cs ty)):bp h k:=by unfold bp fk;rw[bw,hk]
theorem iq {k e n:Nat} {f:be} {ty:TypeId} (hk:h[k]? = some (.gl e n f ty)):bp h k:=by unfold bp fk;rw[bw,hk]
theorem d8 {k:Nat} {o:AD} (hn:ν.sub ν') (hd:o ≠ .dead) (hl:∀ b az ty,lh[b]? = some (.cells az ty)->(∃ c e,ν k=some (some (b,c,e)))->lh'[b]? = some (.cells az ty)) (hb:FQ w0 ν nV nS lh k o):FQ w0 ν' nV nS lh' k o:=by
 cases o with
 |cells cs ty=>
   let ⟨b,c,e,az,M,Q,h3⟩:=hb
   exact⟨b,c,e,az,hn.1 _ _ M,hl _ _ _ Q ⟨c,e,M⟩,FX hn _ _ h3⟩
 |gl esz n f ty=>
   rcases hb with ⟨M,Q⟩|⟨b,c,az,M,Q,h3,h4,h5⟩
   ·exact .inl ⟨hn.1 _ _ M,Q⟩
   ·exact .inr ⟨b,c,az,hn.1 _ _ M,hl _ _ _ Q ⟨c,esz,M⟩,h3,h4,λi hi=>⟨(h5 i hi).1,FX hn _ _ (h5 i hi).2⟩⟩
 |dead=>exact(hd rfl).elim|hid=>trivial
def zR (ν:Nu) (p:Nat) (x:Option (Nat×Nat×Nat)):Nu:=⟨λk=>if k=p then some x else ν k,ν.z⟩
theorem gy (ν:Nu) (p:Nat) (x:Option (Nat×Nat×Nat)) (k:Nat):zR ν p x k=if k=p then some x else ν k:=rfl
theorem kX {p:Nat} {x:Option (Nat×Nat×Nat)} (hp:ν p=none):ν.sub (zR ν p x):=⟨λk y hk=>by
 rw[gy];have:k≠p:=λe=>by subst e;rw[hp]at hk;cases hk
 rw[AU this];exact hk,ni _⟩
theorem gA (ν:Nu) (p:Nat) (x:Option (Nat×Nat×Nat)):zR ν p x p=some x:=by rw[gy,Ad rfl]
theorem nl {o:Option ar} (h:isCells o=false) (az:List ak) (ty:TypeId):o≠some (.cells az ty):=λe=>by subst e;cases h
theorem aaz {z lh:List ar} (h:w6 z lh) {b:Nat} (hb:isCells lh[b]? = false):isCells z[b]? = false:=by
 cases hz:z[b]? with
 |none=>rfl
 |some o=>
   cases o with
   |dead=>rfl|hid=>rfl|cells az ty=>rw[h b az ty hz]at hb;cases hb
theorem HR.put (hh:HR w0 ν nV nS h lh) {p b c e:Nat} {o:AD} {az:List ak} {ty:TypeId} (hp:ν p=none) (S7:p<h'.length)
 (ho:h'[p]? = some o) (hoth:∀k,k ≠ p->h'[k]? = h[k]?) (Y4:lh'[b]? = some (.cells az ty)) (Zn:∀j,j ≠ b->lh'[j]? = lh[j]?) (hfree:isCells lh[b]? = false)
 (hlen:lh.length<=lh'.length) (hdead:∀k,h[k]? = some .dead->k≠p->nS+(k-nV)≠b) (Y5:o≠.dead)
 (n0:FQ w0 (zR ν p (some (b,c,e))) nV nS lh' p o):HR w0 (zR ν p (some (b,c,e))) nV nS h' lh'/\ν.sub (zR ν p (some (b,c,e))):=by
 have hs:=kX (x:=some (b,c,e)) hp;have hlive:∀k,k≠p->bp h' k->bp h k:=λk hk hl=>by unfold bp fk at *;rw[bw]at *;rw[hoth k hk]at hl;exact hl
 have hcell:∀ k x,bp h k->ν k=some (some x)->x.1≠b:=λk x hl hx e=>by
  subst e;rcases gz hl with ⟨cs,t,hk⟩|⟨_,_,_,_,hk⟩
  ·let ⟨b',c',e',as',M,Q,_⟩:=hh.blk k _ hk
   rw[hx]at M;cases M;rw[Q]at hfree;cases hfree
  ·rcases hh.blk k _ hk with ⟨M,_⟩|⟨b',c',as',M,Q,_⟩
   ·rw[hx]at M;cases M
   ·rw[hx]at M;cases M;rw[Q]at hfree;cases hfree
 have Zu:=aaz hh.zl hfree;refine⟨⟨λk o' hk=>?_,λk k' x x' M Q h3 h4 h5=>?_,λk hk=>?_,λk x hk=>?_,λj as' ty' hj=>?_,λk x hk hx=>?_⟩,hs⟩
 ·by_cases e1:k=p
  ·subst e1;rw[ho]at hk;cases hk;exact n0
  ·rw [hoth k e1]at hk
   by_cases hd:o'=.dead
   ·subst hd
    let ⟨g1,g2,g3⟩:=hh.blk k _ hk
    exact⟨by rw[gy,AU e1];exact g1,g2,by rw[Zn _ (hdead k hk e1)];exact g3⟩
   ·refine d8 hs hd (λb' as' ty' g1 _=>?_) (hh.blk k _ hk);rw[Zn b' (λe2=>by subst e2;rw[g1]at hfree;cases hfree)];exact g1
 ·rw [gy]at h3 h4
  by_cases e1:k=p<;>by_cases e2:k'=p
  ·rw[e1,e2]
  ·rw[Ad e1]at h3;rw[AU e2]at h4;cases h3;exact absurd h5.symm (hcell k' x' (hlive k' e2 Q) h4)
  ·rw[AU e1]at h3;rw[Ad e2]at h4;cases h4;exact absurd h5 (hcell k x (hlive k e1 M) h3)
  ·rw[AU e1]at h3;rw[AU e2]at h4;exact hh.inj k k' x x' (hlive k e1 M) (hlive k' e2 Q) h3 h4 h5
 ·have e1:k≠p:=λe1=>by subst e1;omega
  rw[gy,AU e1];apply hh.dom;have:=hoth k e1;rw[D1 hk]at this;exact List.getElem?_eq_none_iff.1 this.symm
 ·rw[gy]at hk
  split at hk
  ·cases hk;exact(List.getElem?_eq_some_iff.1 Y4).1
  ·exact ET (hh.rng k x hk) hlen
 ·have SJ:ν.z[j]? = some (.cells as' ty'):=hj;rw[Zn j λe=>by rw[e]at SJ;exact nl Zu _ _ SJ];exact hh.zl j as' ty' SJ
 ·rw[gy]at hx
  by_cases e1:k=p
  ·rw[Ad e1]at hx;cases hx;exact Zu
  ·rw[AU e1]at hx;exact hh.zn k x (hlive k e1 hk) hx
def K1 (nV nS:Nat) (pl plA:Option Nat):Prop:=(pl=none/\plA=none)∨∃p,pl=some p/\plA=some (nS+(p-nV))
theorem aeu (hh:HR w0 ν nV nS h lh) {pl plA:Option Nat} (hp:K1 nV nS pl plA) {o:AD} {az:List ak} {ty:TypeId} {c e:Nat} {PR:Nat->List AD->AN α} {KA:Nat->List ar->Prop} (Y5:o≠.dead)
 (hb:∀p b lh',lh'[b]? = some (.cells az ty)->ν p=none->FQ w0 (zR ν p (some (b,c,e))) nV nS lh' p o)
 (hs:bU LP (gx pl h o PR) Pg) (hK:∀p b h' lh',((pl=none/\plA=none)∨(pl=some p/\plA=some b/\h'=h.set p o/\lh'=lh.set b (.cells az ty)/\p<h.length/\b<lh.length))->ν p=none->HR w0 (zR ν p (some (b,c,e))) nV nS h' lh'->bU LP (PR p h') Pg->KA b lh'):place plA lh (.cells az ty) KA:=by
 rcases hp with ⟨rfl,rfl⟩|⟨p,rfl,rfl⟩
 ·simp [gx]at hs
  rw[ca,zb]at hs;have hp:=hh.dom h.length (Ah _)
  let ⟨M,_⟩:=hh.put (h':=h++[o]) (lh':=lh++[.cells az ty]) (p:=h.length) (b:=lh.length) (c:=c) (e:=e) (o:=o) (az:=az) (ty:=ty) hp au au
   (fun k hk=>by
     rw[E1];split
     ·rfl
     ·rw[D1 (by simp;omega),D1 K])
   au
   (fun k hk=>by
     rw[E1];split
     ·rfl
     ·rw[D1 (by simp;omega),D1 K])
   (by simp[isCells]) au
   (λk hk _=>by let ⟨_,_,g3⟩:=hh.blk k _ hk;have:=(List.getElem?_eq_some_iff.1 g3).1;omega)
   Y5 (hb _ _ _ au hp)
  exact hK _ _ _ _ (.inl ⟨rfl,rfl⟩) hp M hs
 ·simp [gx,bw]at hs
  split at hs
  ·rename_i hd
   rw[jj]at hs
   let ⟨g1,g2,g3⟩:=hh.blk p _ hd
   refine⟨g3,?_⟩;have Pj:=(List.getElem?_eq_some_iff.1 hd).1;have hlt':=(List.getElem?_eq_some_iff.1 g3).1
   let ⟨M,_⟩:=hh.put (h':=h.set p o) (lh':=lh.set (nS+(p-nV)) (.cells az ty)) (p:=p) (b:=nS+(p-nV)) (c:=c) (e:=e) (o:=o) (az:=az) (ty:=ty) g1 (by simpa using Pj) (by simp[Pj])
    (λk hk=>by simp[hk.symm]) (by simp[hlt']) (λk hk=>by simp[hk.symm]) (by rw[g3];rfl) au
    (λk hk RY e1=>by let ⟨_,k2,_⟩:=hh.blk k _ hk;omega)
    Y5 (hb _ _ _ (by simp[hlt']) g1)
   exact hK _ _ _ _ (.inr ⟨rfl,rfl,rfl,rfl,Pj,hlt'⟩) g1 M hs
  ·exact hs.elim
theorem HR.set (hh:HR w0 ν nV nS h lh) {k b c e:Nat} {o:AD} {az:List ak} {ty:TypeId} (hk:bp h k) (hν:ν k=some (some (b,c,e))) (hc:isCells lh[b]? = true) (Zn:fk [o] 0=true)
 (n0:FQ w0 ν nV nS (lh.set b (.cells az ty)) k o):HR w0 ν nV nS (h.set k o) (lh.set b (.cells az ty)):=by
 have WT:k<h.length:=by rcases gz hk with ⟨_,_,g⟩|⟨_,_,_,_,g⟩<;>exact(List.getElem?_eq_some_iff.1 g).1
 have hlive:∀ j,bp (h.set k o) j->bp h j:=λj hj=>by
  by_cases e1:j=k
  ·subst e1;exact hk
  ·unfold bp fk at *;rw[bw]at *;rw[Be,AU (Ne.symm e1)]at hj;exact hj
 refine⟨λj o' hj=>?_,λj j' x x' M Q=>hh.inj j j' x x' (hlive j M) (hlive j' Q),λj hj=>hh.dom j (by simpa using hj),λj x hx=>by simpa using hh.rng j x hx,λj as' ty' hj=>?_,λj x hj hx=>hh.zn j x (hlive j hj) hx⟩
 case refine_2=>
  rw[Be,AU λe2=>?_]
  ·exact hh.zl j as' ty' hj
  ·subst e2;exact nl (hh.zn k _ hk hν) _ _ hj
 by_cases e1:j=k
 ·subst e1;rw[Be,Ad rfl,Ad WT]at hj;cases hj;exact n0
 ·rw [Be,AU (Ne.symm e1)]at hj
  by_cases hd:o'=.dead
  ·subst hd
   let ⟨g1,g2,g3⟩:=hh.blk j _ hj
   refine⟨g1,g2,?_⟩;rw[Be,AU (λe2=>by rw[← e2]at g3;rw[g3]at hc;cases hc)];exact g3
  ·by_cases hl:o'=.hid
   ·subst hl;trivial
   ·refine d8 (Nu.sub_refl ν) hd (λb' as' ty' g1 g2=>?_) (hh.blk j _ hj)
    rw[Be,AU]
    ·exact g1
    ·intro e2
     subst e2
     let ⟨c',e',g3⟩:=g2
     have Vd:bp h j:=by unfold bp fk;rw[bw,hj];cases o'<;>first|rfl|exact(hd rfl).elim|exact(hl rfl).elim
     exact e1 (hh.inj j k _ _ Vd hk g3 hν rfl)
theorem HR.hide1 (hh:HR w0 ν nV nS h lh) (k:Nat):HR w0 ν nV nS (h.set k .hid) lh:=by
 have hlive:∀ j,bp (h.set k .hid) j->bp h j:=λj hj=>by
  by_cases e1:k=j
  ·subst e1;exfalso;rcases gz hj with ⟨_,_,g⟩|⟨_,_,_,_,g⟩<;>(rw[Be,Ad rfl]at g;split at g<;>cases g)
  ·unfold bp fk at *;rw[bw]at *
   rw[Be,AU e1]at hj;exact hj
 refine⟨λj o hj=>?_,λj j' x x' M Q=>hh.inj j j' x x' (hlive j M) (hlive j' Q),λj hj=>hh.dom j (by simpa using hj),hh.rng,hh.zl,λj x hj hx=>hh.zn j x (hlive j hj) hx⟩;rw[Be]at hj;split at hj
 ·split at hj
  ·cases hj;trivial
  ·cases hj
 ·exact hh.blk j o hj
end
section
variable {w0:World} {ν ν':Nu} {nV nS Pn:Nat} {h h':List AD} {lh lh':List ar} {α:Type} {LP:fE} {Pg:α->Prop} {e:bT} {sl:List ak} {ctx:Bool}
theorem Bw (a:Addr) (i j:Nat):(a.add i).add j=a.add (i+j):=by
 unfold Addr.add;by_cases hi:i=0
 ·subst hi;simp
 ·by_cases hj:j=0
  ·subst hj;simp
  ·have:¬ (i+j=0):=by omega
   simp[hi,hj,this,H9]
theorem hnl (p:js) (i j:Nat):(p.add i).add j=p.add (i+j):=by
 cases p with
 |l k off=>simp[js.add,H9]|g a=>simp[js.add,Bw]
theorem hlb {a:Addr} {n i m:Nat} {az:List ak} (hg:gT w0 a 0 n=some az) (Qm:i+m<=n):gT w0 (a.add i) 0 m=some ((az.drop i).take m):=by
 obtain⟨vs,rfl,hl,hc⟩:=e9 n 0 az hg;have:=kY (w:=w0) (a:=a.add i) ((vs.drop i).take m) 0 (λj v hv=>by
  rw[E5]at hv;split at hv
  ·rw[EU]at hv;rw[Bw];have:=hc (i+j) v hv;simpa using this
  ·cases hv)
 rw[show((vs.drop i).take m).length=m by simp;omega]at this;rw[this];simp
theorem akD {z:List ar} {p:js} {n i m:Nat} {az:List ak} (hl:lds w0 z p n=some az) (Qm:i+m<=n) (hz:w6 z lh):lds w0 lh (p.add i) m=some ((az.drop i).take m):=by
 cases p with
 |g a=>exact hlb hl Qm
 |l k off=>
   have Q:=yH hz hl;simp[lds,js.add]at Q ⊢;split at Q
   ·rename_i cs ty hk
    split at Q
    ·rename_i hlen;cases Q;rw[Ad K,J8,FA,Fc,IG K]
    ·cases Q
   ·cases Q
theorem KF {p:js} {n:Nat} {az:List ak} (hl:lds w0 lh p n=some az):az.length=n:=by
 cases p with
 |l k off=>
   simp[lds]at hl;split at hl
   ·split at hl
    ·cases hl;simp;omega
    ·cases hl
   ·cases hl
 |g a=>obtain⟨vs,rfl,Q,_⟩:=e9 n 0 az hl;simpa using Q
theorem hq₂ {z:List ar} {p:js} {n:Nat} {az:List ak} {x:ak} (hl:lds w0 z p n=some az) (hx:az[0]? = some x) (hz:w6 z lh):ld w0 lh p=some x:=by
 cases p with
 |g a=>
   obtain⟨vs,rfl,Q,h3⟩:=e9 n 0 az hl;rw[List.getElem?_map]at hx;cases hv:vs[0]? with
   |none=>rw[hv]at hx;cases hx
   |some v=>rw[hv]at hx;cases hx;have:=h3 0 v hv;simp[Addr.add]at this;simp[ld,this]
 |l k off=>
   have Q:=yH hz hl;simp[lds]at Q;split at Q
   ·rename_i cs ty hk
    split at Q
    ·cases Q
     simp[ld,hk];rw[E5]at hx;split at hx
     ·rw[EU]at hx;exact hx
     ·cases hx
    ·cases Q
   ·cases Q
theorem FU {v:V} {a:ak} {PR:V->AN α} (hc:ctx=true) (hv:vr w0 lh ν v a) (hs:bU LP (jA ctx v PR) Pg):∃ u,vr w0 lh ν u a/\bU LP (PR u) Pg:=by
 unfold jA at hs;split at hs
 ·rename_i b u;simp[bU]at hs;simp[vr]at hv;subst hc;exact⟨u,hv.1 (hs.1 rfl),hs.2⟩
 ·exact⟨_,hv,hs⟩
theorem ab4 {v:V} {a:ak} {PR:V->AN α} (hc:ctx=true) (hv:vr w0 lh ν v a) (hs:bU LP (jA ctx v PR) Pg):∃ u,vr w0 lh ν u a/\bU LP (PR u) Pg/\∀ h l,kI h v=some l->u=v:=by
 unfold jA at hs;split at hs
 ·rename_i b u;simp[bU]at hs;simp[vr]at hv;subst hc;exact⟨u,hv.1 (hs.1 rfl),hs.2,λh l hn=>by simp[kI]at hn⟩
 ·exact⟨_,hv,hs,λ_ _ _=>rfl⟩
theorem bS {x:gn} {PR:V->AN α} (QM:gY w0 ν Pn e sl) (hc:ctx=true) (hs:bU LP (jA ctx (dR e x) PR) Pg):∃u,vr w0 ν.z ν u (arg sl x)/\bU LP (PR u) Pg:=FU hc (QM.arg x) hs
theorem mC (QM:gY w0 ν Pn e sl) (hc:ctx=true):∀ {xs:List gn} {PR:List V->AN α},bU LP (wd ctx e xs PR) Pg->∃ us,bK w0 ν.z ν us (xs.map (arg sl))/\bU LP (PR us) Pg
 |[],PR,hs=>⟨[],by simp[bK],hs⟩
 |x::xs,PR,hs=>by
   simp[wd]at hs
   let ⟨u,M,Q⟩:=bS QM hc hs
   let ⟨us,h3,h4⟩:=mC QM hc Q
   exact⟨u::us,by simp only[DX,bK];exact⟨_,_,rfl,M,h3⟩,h4⟩
def HZ (w0:World) (ν:Nu):Option V->Option ak->Prop
 |none,a=>a=none|some v,a=>∃x,a=some x/\vr w0 ν.z ν v x
theorem Hs (QM:gY w0 ν Pn e sl) (hc:ctx=true) {x:Option gn} {PR:Option V->AN α} (hs:bU LP (wb ctx e x PR) Pg):∃ u,HZ w0 ν u (x.map (arg sl))/\bU LP (PR u) Pg:=by
 cases x with
 |none=>exact⟨none,rfl,hs⟩
 |some x=>
   simp[wb]at hs
   let ⟨u,M,Q⟩:=bS QM hc hs
   exact⟨some u,⟨_,rfl,M⟩,Q⟩
theorem gf {p:Prop} [Decidable p] {x:AN α} (hc:ctx=true) (hs:bU LP (zH ctx p x) Pg):p/\bU LP x Pg:=by simp[zH,bU]at hs;subst hc;exact⟨by simpa using hs.1 rfl,hs.2⟩
theorem eR {x:Option V} {xa:Option ak} {y d:Nat} {PR:Nat->AN α} {KA:Nat->Prop} (hc:ctx=true) (hx:HZ w0 ν x xa) (hs:bU LP (oh ctx x y d PR) Pg) (hK:∀ n,(x=none->n=d)->(x≠none->n<=y)->bU LP (PR n) Pg->KA n):bnd xa y d KA:=by
 cases x with
 |none=>simp[HZ]at hx;subst hx;exact hK d (λ_=>rfl) (λh=>(h rfl).elim) hs
 |some v=>
   simp[HZ]at hx;obtain⟨a,rfl,hv⟩:=hx;cases v<;>simp[oh]at hs<;>try exact hs.elim
   simp[vr]at hv;subst hv
   let ⟨⟨M,Q⟩,h3⟩:=gf hc hs
   exact⟨M,Q,hK _ (λh=>by cases h) (λ_=>by omega) h3⟩
theorem u4 {x:Option V} {xa:Option ak} {y y' d:Nat} {KA:Nat->Prop} (hy:y<=y') (hb:bnd xa y d KA):bnd xa y' d KA:=by
 unfold bnd at *
 split at hb
 ·exact hb
 ·exact⟨hb.1,K,hb.2.2⟩
 ·exact hb.elim
theorem vc (QM:gY w0 ν Pn e sl) (hc:ctx=true):∀ {ps:List (Nat×Nat×gn)} {z:List V} {za:List ak} {PR:List V->AN α} {KA:List ak->Prop},bK w0 ν.z ν z za->bU LP (rU ctx e ps z PR) Pg ->
 (∀cs az,bK w0 ν.z ν cs az->bU LP (PR cs) Pg->KA az)->parts sl ps za KA
 |[],z,za,PR,KA,hz,hs,hK=>hK z za hz hs
 |(off,n,x)::ps,z,za,PR,KA,hz,hs,hK=>by
   simp[rU]at hs
   let ⟨v,M,Q⟩:=bS QM hc hs
   cases hf:(v.flat&&Nat.beq (cj v.cells) n) with
   |false=>rw[hf]at Q;exact Q.elim
   |true=>
     rw[hf]at Q;simp[cond_true]at Q;simp only[Ae]at hf
     let ⟨g1,g2⟩:=yd M hf.1
     have g3:=Ap hf.2;rw[ca]at g3;split at Q
     ·rename_i z' YG;have hl:=qF YG;have:=b5 g2;have X8:=b5 hz;exact⟨g1,K,K,vc QM hc (yX hz g2 YG) Q hK⟩
     ·exact Q.elim
def uz (w0:World) (Pe:FuncId->ci) (LP:fE) (md:Bool) (cf:CF α):Prop:=∀ (f:FuncId) (vs:List V) (h:List AD) (PR:V->List AD->AN α) (Pg:α->Prop) (ν:Nu) (nV nS:Nat) (args:List ak) (lh:List ar) (KA:ak->List ar->Prop),
 bK w0 ν.z ν vs args->HR w0 ν nV nS h lh->bU LP (cf f vs h PR) Pg->(∀v h' ν' a lh',(md=true->ν'=ν/\h'=h/\lh'=lh)->ν.sub ν'->HR w0 ν' nV nS h' lh'->vr w0 ν'.z ν' v a->bU LP (PR v h') Pg->KA a lh')->Pe f w0 args lh KA
structure zZ (ν ν':Nu) (wn:List Nat) (pl plA:Option Nat) (h h':List AD) (lh lh':List ar):Prop where
 len:lh'.length=lh.length
 chg:∀j,plA ≠ some j->(∀k x,k ∈ wn->ν k=some (some x)->x.1 ≠ j)->lh'[j]? = lh[j]?
 nw:∀k x,ν' k=some x->ν k=some x∨(pl=some k/\∀y,x=some y->(plA=some y.1∨∃k0 z,k0∈wn/\ν k0=some (some z)/\z.1=y.1))
 hlen:h'.length=h.length
 liv:∀k,bp h' k->bp h k∨pl=some k
 zz:ν'.z=ν.z
theorem zZ.refl (ν:Nu) (wn:List Nat) (pl plA:Option Nat) (h:List AD) (lh:List ar):zZ ν ν wn pl plA h h lh lh:=⟨rfl,λ_ _ _=>rfl,λ_ _ h=>.inl h,rfl,λ_ h=>.inl h,rfl⟩
theorem GI (hh:HR w0 ν nV nS h lh) {v u:V} {a:ak} (hv:vr w0 ν.z ν v a) (hl:Jt h v=some u) (Ul:∀ k i j,v=.pe k i j->∀ e n f ty,h[k]? = some (.gl e n f ty)->i<n):∃ p x,a=.ptr (some p)/\ld w0 lh p=some x/\vr w0 ν.z ν u x:=by
 unfold Jt at hl;split at hl
 ·rename_i k off
  rw[bw]at hl;split at hl
  ·rename_i cs ty hk
   rw[bw]at hl
   let ⟨b,c,e,az,M,Q,h3⟩:=hh.blk k _ hk
   simp only[vr]at hv;obtain⟨b',c',e',h4,rfl⟩:=hv;rw[M]at h4;obtain⟨rfl,rfl,rfl⟩:_=b'/\_=c'/\_=e':=by simpa using h4
   let ⟨x,h5,h6⟩:=oN h3 hl
   exact⟨_,x,rfl,by simp[ld,Q];exact h5,h6⟩
  ·cases hl
 ·rename_i k i j
  rw[bw]at hl;split at hl
  ·rename_i e n f ty hk
   rw[bw]at hl;have hi:=Ul k i j rfl _ _ _ _ hk;simp[vr]at hv;obtain⟨b',c',e',h4,rfl⟩:=hv;rcases hh.blk k _ hk with ⟨M,Q⟩|⟨b,c,az,M,Q,h3,hn,h5⟩
   ·omega
   ·rw [M]at h4
    obtain⟨rfl,rfl,rfl⟩:_=b'/\_=c'/\_=e':=by simpa using h4
    let ⟨x,h6,h7⟩:=oN (h5 i hi).2 hl
    refine⟨_,x,rfl,?_,h7⟩;rw[E5]at h6;split at h6
    ·rw[EU]at h6;simp[ld,Q];exact h6
    ·cases h6
  ·cases hl
 ·rename_i cs
  rw[bw]at hl;simp only[vr]at hv;obtain⟨p,az,rfl,_,Q,h3,_⟩:=hv
  let ⟨x,h4,h5⟩:=oN h3 hl
  exact⟨p,x,rfl,hq₂ Q h4 hh.zl,anG (Nu.nil_sub ν) _ _ h5⟩
 ·cases hl
theorem avQ (hh:HR w0 ν nV nS h lh) {v:V} {m:Nat} {us:List V} {a:ak} (hv:vr w0 ν.z ν v a) (hl:Wx h m v=some us) (Ul:∀ k i j,v=.pe k i j->∀ e n f ty,h[k]? = some (.gl e n f ty)->i<n):∃ p xs,a=.ptr (some p)/\lds w0 lh p m=some xs/\bK w0 ν.z ν us xs:=by
 unfold Wx at hl;split at hl
 ·rename_i k off
  rw[bw]at hl;split at hl
  ·rename_i cs ty hk
   obtain⟨g1,rfl⟩:=tS hl;obtain⟨b,c,e,az,M,Q,h3⟩:=hh.blk k _ hk;simp only[vr]at hv;obtain⟨b',c',e',h4,rfl⟩:=hv;rw[M]at h4;obtain⟨rfl,rfl,rfl⟩:_=b'/\_=c'/\_=e':=by simpa using h4
   refine⟨_,_,rfl,?_,jl m (g8 off h3)⟩;simp only[lds,Q];rw[Ad (by have:=b5 h3;omega)]
  ·cases hl
 ·rename_i k i j
  rw[bw]at hl;split at hl
  ·rename_i e n f ty hk
   obtain⟨g1,rfl⟩:=tS hl;have hi:=Ul k i j rfl _ _ _ _ hk;simp[vr]at hv;obtain⟨b',c',e',h4,rfl⟩:=hv;rcases hh.blk k _ hk with ⟨M,Q⟩|⟨b,c,az,M,Q,h3,hn,h5⟩
   ·omega
   ·rw[M]at h4
    obtain⟨rfl,rfl,rfl⟩:_=b'/\_=c'/\_=e':=by simpa using h4
    obtain⟨ho,Qh⟩:=h5 i hi;have hlen:=b5 Qh;unfold nX at ho;simp only[Ae]at ho;have h8:=Ap ho.1;rw[ca]at h8;have Qm:i*e+e<=c*e:=by rw[← DO];exact DY e K
    refine⟨_,_,rfl,?_,jl m (g8 j Qh)⟩;simp only[lds,Q];rw[Ad K,J8,FA,Fc,IG K]
  ·cases hl
 ·rename_i cs
  obtain⟨g1,rfl⟩:=y5 hl;simp only[vr]at hv;obtain⟨p,az,rfl,_,Q,h3,_⟩:=hv;refine⟨p,az.take m,rfl,?_,jl m (lE (Nu.nil_sub ν) _ _ h3)⟩;have:=akD (i:=0) (m:=m) Q K hh.zl;have e0:p.add 0=p:=by cases p<;>simp[js.add,Addr.add]
  rw[e0]at this;simpa using this
 ·cases hl
theorem xe {v:V} {x:AN α} (hc:ctx=true) (hs:bU LP (XH ctx h v x) Pg):(∀ k i j,v=.pe k i j->∀ e n f ty,h[k]? = some (.gl e n f ty)->i<n)/\bU LP x Pg:=by
 unfold XH at hs;split at hs
 ·rename_i k i j
  rw[bw]at hs;split at hs
  ·rename_i e n f ty hk
   let ⟨M,Q⟩:=gf hc hs
   exact⟨λk' i' j' he e' n' f' ty' RX=>by cases he;rw[hk]at RX;cases RX;exact M,Q⟩
  ·exact hs.elim
 ·rename_i RY;exact⟨λk i j he=>(RY k i j he).elim,hs⟩
theorem yf:∀ (us az:List ak) (off t:Nat),off+us.length<=az.length->(wr az off us)[t]? = if off<=t/\t<off+us.length then us[t-off]? else az[t]?
 |[],az,off,t,h=>by simp only[wr];rw[AU (by simp only[EJ];omega)]
 |u::us,az,off,t,h=>by
   simp only[wr];simp only[Dl]at h;rw[yf us _ _ _ (by simp;omega)];by_cases M:off+1<=t/\t<off+1+us.length
   ·rw[Ad M,Ad ⟨K,by simp;omega⟩,show t-off=(t-(off+1))+1 by omega];simp
   ·rw [AU M]
    by_cases Q:t=off
    ·subst Q;rw[Be,Ad rfl,Ad K,Ad ⟨Ah _,au⟩];simp
    ·rw[Be,AU (Ne.symm Q),AU (by simp;omega)]
theorem hnm {az us:List ak} {e i i' j:Nat} (RY:i'≠i) (hj:j+us.length<=e) (hl:i*e+j+us.length<=az.length):((wr az (i*e+j) us).drop (i'*e)).take e=(az.drop (i'*e)).take e:=by
 apply ED;intro t;rw[E5,E5];split
 ·rename_i ht
  rw[EU,EU,yf _ _ _ _ hl,AU];intro ⟨M,Q⟩;rcases EM i' i with h3|h3
  ·have:i'*e+e<=i*e:=by rw[← DO];exact DY e h3
   omega
  ·have:i*e+e<=i'*e:=by rw[← DO];exact DY e K
   omega
 ·rfl
theorem hp' {az us:List ak} {e i j:Nat} (hj:j+us.length<=e) (hl:i*e+e<=az.length):((wr az (i*e+j) us).drop (i*e)).take e=wr ((az.drop (i*e)).take e) j us:=by
 apply ED;intro t;rw[yf _ _ _ _ (by simp;omega),E5];split
 ·rename_i ht
  rw[EU,yf _ _ _ _ K];by_cases M:j<=t/\t<j+us.length
  ·rw[Ad M,Ad K];congr 1;omega
  ·rw[AU M,AU K,E5,Ad ht,EU]
 ·rename_i ht;rw[AU K,E5,AU ht]
theorem xI:∀ {cs:List V} {off:Nat} {xs r:List V},sg cs off xs=some r->cs.all V.one=true->xs.all V.one=true->r.all V.one=true
 |cs,0,[],r,h,M,Q=>by simp[sg]at h;subst h;exact M
 |[],0,x::xs,r,h,M,Q=>by simp[sg]at h
 |c::cs,0,x::xs,r,h,M,Q=>by
   simp[sg]at h;split at h
   ·rename_i r' hr;cases h;simp only[Dj,Ae]at M Q ⊢;exact⟨Q.1,xI hr M.2 Q.2⟩
   ·cases h
 |[],off+1,xs,r,h,M,Q=>by simp[sg]at h
 |c::cs,off+1,xs,r,h,M,Q=>by
   simp[sg]at h;split at h
   ·rename_i r' hr;cases h;simp only[Dj,Ae]at M ⊢;exact⟨M.1,xI hr M.2 Q⟩
   ·cases h
theorem GH:∀ (cs:List V) (j:Nat) (xs:List V),j+xs.length<=cs.length->sg cs j xs=some (cs.take j++(xs++cs.drop (j+xs.length)))
 |cs,0,[],_=>by simp[sg]
 |[],0,x::xs,h=>by simp at h
 |c::cs,0,x::xs,h=>by simp[sg];rw[GH cs 0 xs (by simp at h ⊢;omega)];simp
 |[],j+1,xs,h=>by simp at h
 |c::cs,j+1,xs,h=>by simp[sg];rw[GH cs j xs (by simp at h;omega)];simp[show j+1+xs.length=(j+xs.length)+1 by omega]
theorem asK (cs:List V) (j:Nat) (xs:List V):∀ (m t k:Nat),(Zh cs j xs t m)[k]? = if k<m then some (cond (Nat.ble j (t+k)&&Nat.blt (t+k) (j+cj xs)) (LK xs (t+k-j)) (LK cs (t+k))) else none
 |0,t,k=>by simp[Zh]
 |m+1,t,0=>by simp[Zh]
 |m+1,t,k+1=>by
   simp only[Zh,EA];rw[asK cs j xs m (t+1) k,show t+1+k=t+(k+1) by omega];by_cases h:k<m
   ·rw[Ad h,Ad K]
   ·rw[AU h,AU K]
theorem uV {l:List V} {i:Nat} (h:i<l.length):l[i]? = some (LK l i):=by unfold LK;rw[bw,Ds h]
theorem f10 {e:Nat} {cs:List V} (h:cs.length=e) (j:Nat) (xs:List V):K9 e cs j xs=sg cs j xs:=by
 unfold K9;rw[ca];cases hb:Nat.ble (j+xs.length) e with
 |false=>
   cases hw:sg cs j xs with
   |none=>rfl
   |some r=>have:=(qF hw).1;rw[EC K]at hb;cases hb
 |true=>
   have Qm:=Bf hb;rw[GH cs j xs K];simp[cond_true,Ak];apply ED;intro k;rw[asK,DZ,ca,E1,E1,E5,EU,Kb];by_cases M:k<j
   ·have Rq:Nat.ble j k=false:=by
     cases hq:Nat.ble j k with
     |false=>rfl|true=>have:=Bf hq;omega
    rw[Ad K,Ad K,Ad M,Rq];exact(uV K).symm
   ·have Rq:Nat.ble j k=true:=EC K
    by_cases Q:k<j+xs.length
    ·have RP:Nat.blt k (j+xs.length)=true:=EC Q;rw[Ad K,AU K,Ad K,Rq,RP,show min j cs.length=j by omega];exact(uV K).symm
    ·have RP:Nat.blt k (j+xs.length)=false:=by
      cases hq:Nat.blt k (j+xs.length) with
      |false=>rfl|true=>have:=Bf hq;omega
     have e1:j+xs.length+(k-min j cs.length-xs.length)=k:=by omega
     by_cases h3:k<e
     ·rw[Ad h3,AU K,AU K,Rq,RP,e1];exact(uV K).symm
     ·rw[AU h3,AU K,AU K,e1,D1 K]
theorem hp1 {v:V} (h:v.flat=true):v.cells.all V.one=true:=by cases v<;>first|exact h|(simp[V.flat,V.cells,V.one]at h ⊢)
theorem fz3 (hh:HR w0 ν nV nS h lh) {v:V} {xs:List V} {us:List ak} {a:ak} (hv:vr w0 ν.z ν v a) (hx:bK w0 ν.z ν xs us) (ho:xs.all V.one=true) (hl:Yp h xs v=some h') (Ul:∀ k i j,v=.pe k i j->∀ e n f ty,h[k]? = some (.gl e n f ty)->i<n) :
 ∃b off cs ty k c e,a=.ptr (some (.l b off))/\lh[b]? = some (.cells cs ty)/\off+us.length<=cs.length/\HR w0 ν nV nS h' (lh.set b (.cells (wr cs off us) ty))/\kI h v=some [k]/\ν k=some (some (b,c,e)):=by
 unfold Yp at hl;split at hl
 ·rename_i k off
  rw[bw]at hl;split at hl
  ·rename_i cs ty hk
   split at hl
   ·rename_i r hr
    cases hl
    let ⟨b,c,e,az,M,Q,h3⟩:=hh.blk k _ hk
    simp only[vr]at hv;obtain⟨b',c',e',h4,rfl⟩:=hv;rw[M]at h4;obtain⟨rfl,rfl,rfl⟩:_=b'/\_=c'/\_=e':=by simpa using h4
    have WU:=eJ hk;have Pj:=(List.getElem?_eq_some_iff.1 Q).1;refine⟨b,off,az,ty,k,c,e,rfl,Q,by have:=qF hr;have:=b5 h3;have:=b5 hx;omega,?_,?_,M⟩
    ·rw[jj];refine hh.set WU M (by rw[Q];rfl) rfl ⟨b,c,e,wr az off us,M,by simp[Pj],yX h3 hx hr⟩
    ·simp[kI];unfold bp at WU;rw[WU];rfl
   ·cases hl
  ·cases hl
 ·rename_i k i j
  rw[bw]at hl;split at hl
  ·rename_i e n f ty hk
   cases SG:Nat.ble (j+cj xs) e with
   |false=>rw[SG]at hl;cases hl
   |true=>
     rw[SG]at hl;cases hl;have hr:K9 e (f i) j xs=some (Zh (f i) j xs 0 e):=by unfold K9;rw[SG];rfl
     revert hr;generalize V7:Zh (f i) j xs 0 e=r;intro hr;have hi:=Ul k i j rfl _ _ _ _ hk;simp[vr]at hv;obtain⟨b',c',e',h4,rfl⟩:=hv;have WU:=iq hk;rcases hh.blk k _ hk with ⟨M,Q⟩|⟨b,c,az,M,Q,h3,hn,h5⟩
     ·omega
     ·rw [M]at h4
      obtain⟨rfl,rfl,rfl⟩:_=b'/\_=c'/\_=e':=by simpa using h4
      have Pj:=(List.getElem?_eq_some_iff.1 Q).1
      let ⟨Sk,Qh⟩:=h5 i hi
      have izb12:=b5 hx;have hlen:=b5 Qh;unfold nX at Sk;simp only[Ae]at Sk;have h8:=Ap Sk.1;rw[ca]at h8;rw[f10 h8]at hr;have nx12:=qF hr;have Qm:i*e+e<=c*e:=by rw[← DO];exact DY e K
      refine⟨b,i*e+j,az,ty,k,c,e,rfl,Q,K,?_,?_,M⟩
      ·rw [jj]
       refine hh.set WU M (by rw[Q];rfl) rfl (.inr ⟨b,c,wr az (i*e+j) us,M,by simp[Pj],by rw[qz];exact h3,hn,λi' RI=>?_⟩);by_cases he:i'=i
       ·subst he
        simp[Xl,Nat.beq_refl,cond_true,V7];refine⟨?_,?_⟩
        ·unfold nX;simp only[Ae];exact⟨by rw[ca,nx12.2,h8];simp,xI hr Sk.2 ho⟩
        ·rw[hp' K K];exact yX Qh hx hr
       ·have:Nat.beq i' i=false:=by
         cases hb:Nat.beq i' i with
         |false=>rfl|true=>exact(he (Ap hb)).elim
        simp[Xl,this,cond_false];refine⟨(h5 i' RI).1,?_⟩;rw[hnm he K K];exact(h5 i' RI).2
      ·simp[kI];unfold bp at WU;rw[WU];rfl
  ·cases hl
 ·cases hl
end
section
variable {w0:World} {ν ν':Nu} {nV nS Pn:Nat} {h h':List AD} {lh lh':List ar} {α:Type} {LP:fE} {Pg:α->Prop} {e:bT} {sl:List ak} {ctx:Bool}
theorem dB:∀ {n:Nat} {p:Nat->Bool},dz n p=true->∀ i,i<n->p i=true
 |0,p,_,i,hi=>by omega
 |n+1,p,hp,i,hi=>by
   simp[dz,Ae]at hp;by_cases e:i=n
   ·subst e;exact hp.2
   ·exact dB hp.1 i K
theorem fQ:∀ {n:Nat} {p:Nat->Bool},(∀ i,i<n->p i=true)->dz n p=true
 |0,p,_=>rfl|n+1,p,hp=>by simp[dz,Ae];exact⟨fQ λi hi=>hp i K,hp n K⟩
theorem hkk {a:Addr}:∀ (n i:Nat),(∀ t,t<n->∃ v,w0.cell? (a.add (i+t))=some v)->∃ az,gT w0 a i n=some az
 |0,i,_=>⟨[],rfl⟩
 |n+1,i,hc=>by
   let ⟨v,hv⟩:=hc 0 K
   obtain⟨az,has⟩:=hkk n (i+1) (λt ht=>by have:=hc (t+1) K;rw[show i+1+t=i+(t+1) by omega];exact this);exact⟨bV v::az,by simp[gT,has];simp[Ej]at hv;rw[hv]⟩
theorem oz {esz:Nat} {l:List V} (ho:nX esz l=true):l.length=esz/\l.all V.one=true:=by unfold nX at ho;simp only[Ae]at ho;exact⟨by rw[← ca];exact Ap ho.1,ho.2⟩
theorem HM {esz:Nat} {l:List V} (M:l.length=esz) (Q:l.all V.one=true):nX esz l=true:=by unfold nX;rw[ca,M,Q];simp
theorem ke {esz:Nat}:∀ {n:Nat} {az:List ak},az.length=n*esz->(∀ i,i<n->((az.drop (i*esz)).take esz).all ak.one=true)->az.all ak.one=true
 |0,az,hl,_=>by simp at hl;subst hl;rfl
 |n+1,az,hl,hc=>by rw[← Ko esz az,List.all_append,Ae];refine⟨by have:=hc 0 K;simpa using this,ke (esz:=esz) (n:=n) (by simp[hl,DO]) (λi hi=>?_)⟩;have:=hc (i+1) K;rw[FA,show esz+i*esz=(i+1)*esz by rw[DO];omega];exact this
theorem oJ {az:List ak} {n esz i:Nat} (hi:i<n):((az.take (n*esz)).drop (i*esz)).take esz=(az.drop (i*esz)).take esz:=by
 have:i*esz+esz<=n*esz:=by rw[← DO];exact DY esz hi
 rw[J8,Fc,IG K]
theorem hqs {α:Type} {az:List α} {n esz i:Nat} (hl:az.length=n*esz) (hi:i<n):((az.drop (i*esz)).take esz).length=esz:=by
 have:i*esz+esz<=n*esz:=by rw[← DO];exact DY esz hi
 simp;omega
theorem ak4 {α:Type} {p:α->Bool} {l:List α} (a b:Nat) (hl:l.all p=true):((l.drop a).take b).all p=true:=by
 rw[IE]at *
 exact λx hx=>hl x (List.mem_of_mem_drop (List.mem_of_mem_take hx))
theorem axj (hh:HR w0 ν nV nS h lh) {x:V} {a:ak} {esz m:Nat} {g:be} (hv:vr w0 ν.z ν x a) (hs:Gr h esz x=some (m,g,true)) :
 ∃PX c new,a=.slice PX m c/\cellsOf w0 lh PX (m*esz)=some new/\new.length=m*esz/\new.all ak.one=true/\∀i,i<m->nX esz (g i)=true/\bK w0 ν.z ν (g i) ((new.drop (i*esz)).take esz):=by
 unfold Gr at hs;split at hs
 ·cases hs;simp only[vr]at hv;subst hv;exact⟨none,0,[],rfl,by simp[cellsOf],au,rfl,λi hi=>by omega⟩
 ·rename_i n f
  simp only[Ak,Prod.mk.injEq]at hs;obtain⟨rfl,rfl,Sk⟩:=hs;have Sk:=dB Sk;simp only[vr]at hv;obtain⟨p,c,esz',rfl,_,_,hp,Qo⟩:=hv;cases n with
  |zero=>
    refine⟨p,c,[],rfl,?_,au,rfl,λi hi=>by omega⟩;cases p with
    |none=>simp[cellsOf]
    |some PX=>cases PX with|l k off=>obtain⟨cs,ty,M,Q⟩:=hp;simp[cellsOf,lds,hh.zl _ _ _ M,Q]|g a=>simp[cellsOf,lds,gT]
  |succ n=>
    obtain⟨PX,as0,rfl,Zm,sk⟩:=Qo 0 K;have Qu:esz'=esz:=by have:=KF Zm;have M:=b5 sk.1;have Q:=(oz (Sk 0 K)).1;omega
    subst Qu;cases PX with
    |l k off=>
      have hel':∀ i,i<n+1->∃ cs ty,ν.z[k]? = some (.cells cs ty)/\off+i*esz'+esz'<=cs.length/\bK w0 ν.z ν (f i) ((cs.drop (off+i*esz')).take esz'):=λi hi=>by
       obtain⟨q',az,e1,e2,e3,_⟩:=Qo i hi;cases e1;simp only[js.add,lds]at e2;split at e2
       ·rename_i cs ty hk
        split at e2
        ·rename_i Qm;cases e2;exact⟨cs,ty,hk,Qm,lE (Nu.nil_sub ν) _ _ e3⟩
        ·cases e2
       ·cases e2
      obtain⟨cs,ty,c1,c2,_⟩:=hel' n K;have hm:(n+1)*esz'=n*esz'+esz':=DO n esz';have hlen:((cs.drop off).take ((n+1)*esz')).length=(n+1)*esz':=by simp;omega
      have S4:∀i,i<n+1->nX esz' (f i)=true/\bK w0 ν.z ν (f i) ((((cs.drop off).take ((n+1)*esz')).drop (i*esz')).take esz'):=λi hi=>by obtain⟨cs',ty',d1,d2,d3⟩:=hel' i hi;rw[c1]at d1;cases d1;refine⟨Sk i hi,?_⟩;rw[oJ hi,FA];exact d3
      refine⟨_,c,_,rfl,?_,hlen,ke hlen λi hi=>ls (S4 i hi).2 (oz (S4 i hi).1).2,S4⟩;simp only[cellsOf,lds,hh.zl _ _ _ c1];rw[Ad K]
    |g a=>
      have hel':∀i,i<n+1->∃az,gT w0 (a.add (i*esz')) 0 esz'=some az/\bK w0 ν.z ν (f i) az:=λi hi=>by obtain⟨q',az,e1,e2,e3,_⟩:=Qo i hi;cases e1;exact⟨az,e2,lE (Nu.nil_sub ν) _ _ e3⟩
      obtain⟨new,hnew⟩:=hkk (w0:=w0) (a:=a) ((n+1)*esz') 0 (λt ht=>by
       by_cases he:esz'=0
       ·subst he;simp at ht
       ·have hi:t / esz'<n+1:=by
         rw[Nat.div_lt_iff_lt_mul K];exact ht
        obtain⟨az,e1,_⟩:=hel' _ hi;obtain⟨vs,_,hl,hc⟩:=e9 _ _ _ e1;have hm:t % esz'<vs.length:=by rw[hl];exact HH _ K
        have:=hc (t % esz') _ (Ds hm);rw[Bw]at this;rw[DZ]at this;rw[Nat.mul_comm,Nat.div_add_mod]at this;exact⟨_,by rw[DZ];exact this⟩)
      have hlen:new.length=(n+1)*esz':=by obtain⟨vs,rfl,Q,_⟩:=e9 _ 0 new hnew;simpa using Q
      have S4:∀ i,i<n+1->nX esz' (f i)=true/\bK w0 ν.z ν (f i) ((new.drop (i*esz')).take esz'):=λi hi=>by
       obtain⟨az,e1,e2⟩:=hel' i hi;have Qm:i*esz'+esz'<=(n+1)*esz':=by rw[← DO];exact DY esz' hi
       have:=hlb hnew Qm;rw[e1]at this;cases this;exact⟨Sk i hi,e2⟩
      exact⟨_,c,new,rfl,hnew,hlen,ke hlen λi hi=>ls (S4 i hi).2 (oz (S4 i hi).1).2,S4⟩
 ·rename_i k n
  rw[bw]at hs;split at hs
  ·rename_i e n' f ty hk
   cases he:Nat.beq e esz with
   |false=>rw[he]at hs;cases hs
   |true=>
     rw[he]at hs;have:=Ap he;subst this;simp only[cond_true,Ak,Prod.mk.injEq]at hs;obtain⟨rfl,rfl,Qm⟩:=hs;have Qm:=Bf Qm;simp only[vr]at hv;rcases hh.blk k _ hk with ⟨M,Q⟩|⟨b,c,az,M,Q,h3,hn,h5⟩
     ·rcases hv with ⟨_,h3,h4⟩|⟨b,c,e,h3,_⟩
      ·subst h3 h4;exact⟨none,0,[],rfl,by simp[cellsOf],au,rfl,λi hi=>by omega⟩
      ·rw[M]at h3;cases h3
     ·rcases hv with ⟨h6,_⟩|⟨b',c',e',h6,rfl,hnc0⟩
      ·rw[M]at h6;cases h6
      ·rw [M]at h6
       obtain⟨rfl,rfl,rfl⟩:_=b'/\_=c'/\_=e':=by simpa using h6
       have TS:n*e<=c*e:=DY e K;have hlen:(az.take (n*e)).length=n*e:=by simp;omega
       have S4:∀i,i<n->nX e (f i)=true/\bK w0 ν.z ν (f i) (((az.take (n*e)).drop (i*e)).take e):=λi hi=>by rw[oJ hi];exact h5 i K
       refine⟨_,c,az.take (n*e),rfl,?_,hlen,ke hlen λi hi=>ls (S4 i hi).2 (oz (S4 i hi).1).2,S4⟩;simp only[cellsOf,lds,Q];rw[Ad K];simp
  ·cases hs
 ·rename_i k off n c0
  rw[bw]at hs;split at hs
  ·rename_i cs ty hk
   split at hs
   ·rename_i ds WP
    cases hd:ds.all V.one with
    |false=>rw[hd]at hs;cases hs
    |true=>
      rw[hd]at hs;simp only[cond_true]at hs;obtain⟨g1,rfl⟩:=tS WP;obtain⟨b,c,e,az,M,Q,h3⟩:=hh.blk k _ hk;simp only[vr]at hv;obtain⟨b',c',e',h4,rfl⟩:=hv;rw[M]at h4;obtain⟨rfl,rfl,rfl⟩:_=b'/\_=c'/\_=e':=by simpa using h4
      have Zg:=b5 h3;have Qh:=jl (n*esz) (g8 off h3);have hlen:((az.drop off).take (n*esz)).length=n*esz:=by simp;omega
      have hlenV:((cs.drop off).take (n*esz)).length=n*esz:=by simp;omega
      have RE:cellsOf w0 lh (some (.l b off)) (n*esz)=some ((az.drop off).take (n*esz)):=by simp only[cellsOf,lds,Q];rw[Ad K]
      have hone:=ls Qh hd;split at hs
      ·simp only[Ak,Prod.mk.injEq]at hs
       obtain⟨rfl,rfl,_⟩:=hs;refine⟨_,c0,_,rfl,RE,hlen,hone,λi hi=>?_⟩;have:i=0:=by omega
       subst this;simp only[Nat.one_mul]at *
       refine⟨HM hlenV hd,?_⟩;simp only[Nat.zero_mul,List.drop_zero,Fc,Nat.min_self];exact Qh
      ·simp only[Ak,Prod.mk.injEq]at hs;obtain⟨rfl,rfl,_⟩:=hs;exact⟨_,c0,_,rfl,RE,hlen,hone,λi hi=>⟨HM (hqs hlenV hi) (ak4 _ _ hd),jl esz (g8 (i*esz) Qh)⟩⟩
   ·cases hs
  ·cases hs
 ·rename_i k off n
  rw[bw]at hs;split at hs
  ·rename_i e n' f ty hk
   cases he:Nat.beq e esz with
   |false=>rw[he]at hs;cases hs
   |true=>
     rw[he]at hs;have:=Ap he;subst this;simp only[cond_true,Ak,Prod.mk.injEq]at hs;obtain⟨rfl,rfl,Qm⟩:=hs;have Qm:=Bf Qm;simp only[vr]at hv;rcases hh.blk k _ hk with ⟨M,Q⟩|⟨b,c,az,M,Q,h3,hn,h5⟩
     ·rcases hv with ⟨_,h3,_,h4⟩|⟨b,c,e,o,h3,_⟩
      ·subst h3 h4;exact⟨none,0,[],rfl,by simp[cellsOf],au,rfl,λi hi=>by omega⟩
      ·rw[M]at h3;cases h3
     ·rcases hv with ⟨h6,_⟩|⟨b',c',e',o,h6,rfl,⟨iza3,izb23⟩,iza1⟩
      ·rw[M]at h6;cases h6
      ·rw [M]at h6
       obtain⟨rfl,rfl,rfl⟩:_=b'/\_=c'/\_=e':=by simpa using h6
       by_cases TO:n=0
       ·subst TO;refine⟨_,c-off,[],rfl,?_,au,rfl,λi hi=>by omega⟩;simp only[cellsOf,lds,Q];rw[Ad K];simp
       ·have ho:=iza1 K
        subst ho;have TS:off*e+n*e<=c*e:=by rw[← EP];exact DY e iza3
        have hlen:((az.drop (off*e)).take (n*e)).length=n*e:=by simp;omega
        have S4:∀i,i<n->nX e (f (off+i))=true/\bK w0 ν.z ν (f (off+i)) ((((az.drop (off*e)).take (n*e)).drop (i*e)).take e):=λi hi=>by rw[oJ hi,FA,← EP];exact h5 (off+i) K
        refine⟨_,c-off,(az.drop (off*e)).take (n*e),rfl,?_,hlen,ke hlen λi hi=>ls (S4 i hi).2 (oz (S4 i hi).1).2,S4⟩;simp only[cellsOf,lds,Q];rw[Ad K]
  ·cases hs
 ·cases hs
theorem awh {esz n m:Nat} {f g:be} {old new tail az:List ak} (has:az=old++new++tail) (ho:old.length=n*esz) (hn:new.length=m*esz)
 (M:∀i,i<n->nX esz (f i)=true/\bK w0 ν.z ν (f i) ((old.drop (i*esz)).take esz)) (Q:∀i,i<m->nX esz (g i)=true/\bK w0 ν.z ν (g i) ((new.drop (i*esz)).take esz)) :
 ∀i,i<n+m->nX esz (bc n f g i)=true/\bK w0 ν.z ν (bc n f g i) ((az.drop (i*esz)).take esz):=by
 intro i hi;subst has;unfold bc;by_cases Pj:i<n
 ·have hb:Nat.blt i n=true:=EC Pj
  rw[hb];have:i*esz+esz<=n*esz:=by rw[← DO];exact DY esz Pj
  simp only[cond_true];rw[IA,Kf K,Im (by simp;omega)];exact M i Pj
 ·have hb:Nat.blt i n=false:=by
   cases hb:Nat.blt i n with
   |false=>rfl|true=>have:=Bf hb;omega
  rw[hb];have RI:i-n<m:=by omega
  have e1:i*esz=n*esz+(i-n)*esz:=by rw[← EP];congr 1;omega
  have e2:(i-n)*esz+esz<=m*esz:=by rw[← DO];exact DY esz RI
  simp only[cond_false];rw[e1,← FA,IA,← ho,List.drop_left,Kf K,Im (by simp;omega)];exact Q _ RI
theorem hide_get {k j:Nat} {o:AD} (hj:(h.set k .hid)[j]? = some o) (ho:o≠.hid):h[j]? = some o/\j≠k:=by
 rw[Be]at hj;split at hj
 ·split at hj
  ·cases hj;exact(ho rfl).elim
  ·cases hj
 ·rename_i RY;exact⟨hj,λe=>RY e.symm⟩
theorem HR.move (hh:HR w0 ν nV nS h lh) {p k b c e esz n:Nat} {f:be} {ty:TypeId} {az:List ak} (hp:ν p=none) (S7:p<h'.length) (hk:ν k=some (some (b,c,e))) (S6:bp h k)
 (ho:h'[p]? = some (.gl esz n f ty)) (hoth:∀j,j ≠ p->h'[j]? = (h.set k .hid)[j]?) (Y4:∃as0 t0,lh[b]? = some (.cells as0 t0))
 (hlen:az.length=c*esz) (hn:n<=c/\n<=9223372036854775807) (Qo:∀i,i<n->nX esz (f i)=true/\bK w0 ν.z ν (f i) ((az.drop (i*esz)).take esz)) :
 HR w0 (zR ν p (some (b,c,esz))) nV nS h' (lh.set b (.cells az ty))/\ν.sub (zR ν p (some (b,c,esz))):=by
 have hs:=kX (x:=some (b,c,esz)) hp;have izb6:p≠k:=λe1=>by subst e1;rw[hp]at hk;cases hk
 let ⟨as0,t0,RZ⟩:=Y4
 have SG:=(List.getElem?_eq_some_iff.1 RZ).1;have hlive:∀ j,j≠p->bp h' j->bp h j/\j≠k:=λj hj hl=>by
  rcases gz hl with ⟨_,_,g⟩|⟨_,_,_,_,g⟩
  ·rw[hoth j hj]at g
   let ⟨g1,g2⟩:=hide_get g au
   exact⟨eJ g1,g2⟩
  ·rw[hoth j hj]at g
   let ⟨g1,g2⟩:=hide_get g au
   exact⟨iq g1,g2⟩
 refine⟨⟨λj o hj=>?_,λj j' x x' M Q h3 h4 h5=>?_,λj hj=>?_,λj x hj=>?_,λj as' ty' hj=>?_,λj x hj hx=>?_⟩,hs⟩
 ·by_cases e1:j=p
  ·subst e1;rw[ho]at hj;cases hj;exact .inr ⟨b,c,az,gA _ _ _,by simp[SG],hlen,hn,λi hi=>⟨(Qo i hi).1,FX hs _ _ (Qo i hi).2⟩⟩
  ·rw [hoth j e1]at hj
   by_cases Va:o=.hid
   ·subst Va;trivial
   ·let ⟨g1,g2⟩:=hide_get hj Va
    by_cases hd:o=.dead
    ·subst hd
     let ⟨k1,k2,k3⟩:=hh.blk j _ g1
     refine⟨by rw[gy,AU e1];exact k1,k2,?_⟩;rw[Be,AU (λe2=>by rw[← e2,RZ]at k3;cases k3)];exact k3
    ·refine d8 hs hd (λb' as' ty' q1 q2=>?_) (hh.blk j _ g1)
     rw[Be,AU]
     ·exact q1
     ·intro e2
      subst e2
      let ⟨c',e',q3⟩:=q2
      have Vd:bp h j:=by unfold bp fk;rw[bw,g1];cases o<;>first|rfl|exact(hd rfl).elim|exact(Va rfl).elim
      exact g2 (hh.inj j k _ _ Vd S6 q3 hk rfl)
 ·rw [gy]at h3 h4
  by_cases e1:j=p<;>by_cases e2:j'=p
  ·rw[e1,e2]
  ·rw[Ad e1]at h3;rw[AU e2]at h4;cases h3
   let ⟨g1,g2⟩:=hlive j' e2 Q
   exact absurd (hh.inj j' k _ _ g1 S6 h4 hk h5.symm) g2
  ·rw[AU e1]at h3;rw[Ad e2]at h4;cases h4
   let ⟨g1,g2⟩:=hlive j e1 M
   exact absurd (hh.inj j k _ _ g1 S6 h3 hk h5) g2
  ·rw[AU e1]at h3;rw[AU e2]at h4;exact hh.inj j j' x x' (hlive j e1 M).1 (hlive j' e2 Q).1 h3 h4 h5
 ·have e1:j≠p:=λe1=>by subst e1;omega
  rw[gy,AU e1];apply hh.dom;have:=hoth j e1;rw[D1 hj]at this;have:=List.getElem?_eq_none_iff.1 this.symm;simpa using this
 ·rw[gy]at hj
  split at hj
  ·cases hj;simpa using SG
  ·simpa using hh.rng j x hj
 ·have SJ:ν.z[j]? = some (.cells as' ty'):=hj
  rw[Be,AU λe2=>?_]
  ·exact hh.zl j as' ty' SJ
  ·subst e2;exact nl (hh.zn k _ S6 hk) _ _ SJ
 ·rw[gy]at hx
  by_cases e1:j=p
  ·rw[Ad e1]at hx;cases hx;exact hh.zn k (b,c,e) S6 hk
  ·rw[AU e1]at hx;exact hh.zn j x (hlive j e1 hj).1 hx
theorem HR.renu (hh:HR w0 ν nV nS h lh) {p k b c e esz:Nat} {f:be} {ty:TypeId} {az:List ak} (hp:ν p=none) (S7:p<h'.length) (hk:ν k=some (some (b,c,e))) (S6:bp h k)
 (ho:h'[p]? = some (.gl esz 0 f ty)) (hoth:∀j,j ≠ p->h'[j]? = (h.set k .hid)[j]?) (Y4:∃as0 t0,lh[b]? = some (.cells as0 t0)) (has:az=[]) :
 HR w0 (zR ν p (some (b,0,esz))) nV nS h' (lh.set b (.cells az ty))/\ν.sub (zR ν p (some (b,0,esz))):=by
 subst has;have hs:=kX (x:=some (b,0,esz)) hp;have izb6:p≠k:=λe1=>by subst e1;rw[hp]at hk;cases hk
 let ⟨as0,t0,RZ⟩:=Y4
 have SG:=(List.getElem?_eq_some_iff.1 RZ).1;have hlive:∀ j,j≠p->bp h' j->bp h j/\j≠k:=λj hj hl=>by
  rcases gz hl with ⟨_,_,g⟩|⟨_,_,_,_,g⟩
  ·rw[hoth j hj]at g
   let ⟨g1,g2⟩:=hide_get g au
   exact⟨eJ g1,g2⟩
  ·rw[hoth j hj]at g
   let ⟨g1,g2⟩:=hide_get g au
   exact⟨iq g1,g2⟩
 refine⟨⟨λj o hj=>?_,λj j' x x' M Q h3 h4 h5=>?_,λj hj=>?_,λj x hj=>?_,λj as' ty' hj=>?_,λj x hj hx=>?_⟩,hs⟩
 ·by_cases e1:j=p
  ·subst e1;rw[ho]at hj;cases hj;exact .inr ⟨b,0,[],gA _ _ _,by simp[SG],au,⟨Ah _,K⟩,λi hi=>by omega⟩
  ·rw [hoth j e1]at hj
   by_cases Va:o=.hid
   ·subst Va;trivial
   ·let ⟨g1,g2⟩:=hide_get hj Va
    by_cases hd:o=.dead
    ·subst hd
     let ⟨k1,k2,k3⟩:=hh.blk j _ g1
     refine⟨by rw[gy,AU e1];exact k1,k2,?_⟩;rw[Be,AU (λe2=>by rw[← e2,RZ]at k3;cases k3)];exact k3
    ·refine d8 hs hd (λb' as' ty' q1 q2=>?_) (hh.blk j _ g1)
     rw[Be,AU]
     ·exact q1
     ·intro e2
      subst e2
      let ⟨c',e',q3⟩:=q2
      have Vd:bp h j:=by unfold bp fk;rw[bw,g1];cases o<;>first|rfl|exact(hd rfl).elim|exact(Va rfl).elim
      exact g2 (hh.inj j k _ _ Vd S6 q3 hk rfl)
 ·rw [gy]at h3 h4
  by_cases e1:j=p<;>by_cases e2:j'=p
  ·rw[e1,e2]
  ·rw[Ad e1]at h3;rw[AU e2]at h4;cases h3
   let ⟨g1,g2⟩:=hlive j' e2 Q
   exact absurd (hh.inj j' k _ _ g1 S6 h4 hk h5.symm) g2
  ·rw[AU e1]at h3;rw[Ad e2]at h4;cases h4
   let ⟨g1,g2⟩:=hlive j e1 M
   exact absurd (hh.inj j k _ _ g1 S6 h3 hk h5) g2
  ·rw[AU e1]at h3;rw[AU e2]at h4;exact hh.inj j j' x x' (hlive j e1 M).1 (hlive j' e2 Q).1 h3 h4 h5
 ·have e1:j≠p:=λe1=>by subst e1;omega
  rw[gy,AU e1];apply hh.dom;have:=hoth j e1;rw[D1 hj]at this;have:=List.getElem?_eq_none_iff.1 this.symm;simpa using this
 ·rw[gy]at hj
  split at hj
  ·cases hj;simpa using SG
  ·simpa using hh.rng j x hj
 ·have SJ:ν.z[j]? = some (.cells as' ty'):=hj
  rw[Be,AU λe2=>?_]
  ·exact hh.zl j as' ty' SJ
  ·subst e2;exact nl (hh.zn k _ S6 hk) _ _ SJ
 ·rw[gy]at hx
  by_cases e1:j=p
  ·rw[Ad e1]at hx;cases hx;exact hh.zn k (b,c,e) S6 hk
  ·rw[AU e1]at hx;exact hh.zn j x (hlive j e1 hj).1 hx
theorem HR.virt (hh:HR w0 ν nV nS h lh) {p:Nat} {esz:Nat} {f:be} {ty:TypeId} (hp:ν p=none) (S7:p < h'.length) (ho:h'[p]? = some (.gl esz 0 f ty)) (hoth:∀ j,j ≠ p->h'[j]? = h[j]?) :
 HR w0 (zR ν p none) nV nS h' lh/\ν.sub (zR ν p none):=by
 have hs:=kX (x:=none) hp;have hlive:∀j,j≠p->bp h' j->bp h j:=λk hk hl=>by unfold bp fk at *;rw[bw]at *;rw[hoth k hk]at hl;exact hl
 refine⟨⟨λj o hj=>?_,λj j' x x' M Q h3 h4 h5=>?_,λj hj=>?_,λj x hj=>?_,hh.zl,λj x hj hx=>?_⟩,hs⟩
 ·by_cases e1:j=p
  ·subst e1;rw[ho]at hj;cases hj;exact .inl ⟨gA _ _ _,rfl⟩
  ·rw [hoth j e1]at hj
   by_cases hd:o=.dead
   ·subst hd
    let ⟨k1,k2,k3⟩:=hh.blk j _ hj
    exact⟨by rw[gy,AU e1];exact k1,k2,k3⟩
   ·exact d8 hs hd (λ_ _ _ PX _=>PX) (hh.blk j _ hj)
 ·rw [gy]at h3 h4
  by_cases e1:j=p
  ·rw[Ad e1]at h3;cases h3
  ·by_cases e2:j'=p
   ·rw[Ad e2]at h4;cases h4
   ·rw[AU e1]at h3;rw[AU e2]at h4;exact hh.inj j j' x x' (hlive j e1 M) (hlive j' e2 Q) h3 h4 h5
 ·have e1:j≠p:=λe1=>by subst e1;omega
  rw[gy,AU e1];apply hh.dom;have:=hoth j e1;rw[D1 hj]at this;exact List.getElem?_eq_none_iff.1 this.symm
 ·rw[gy]at hj
  split at hj
  ·cases hj
  ·exact hh.rng j x hj
 ·rw[gy]at hx
  by_cases e1:j=p
  ·rw[Ad e1]at hx;cases hx
  ·rw[AU e1]at hx;exact hh.zn j x (hlive j e1 hj) hx
theorem qE {pl:Option Nat} {o:AD} {PR:Nat->List AD->AN α} (hh:HR w0 ν nV nS h lh) (hs:bU LP (gx pl h o PR) Pg):∃ p h',ν p=none/\p < h'.length/\h'[p]? = some o/\(∀ j,j ≠ p->h'[j]? = h[j]?)/\(pl=none ∨ (pl=some p/\h'=h.set p o/\p < h.length))/\bU LP (PR p h') Pg:=by
 unfold gx at hs;split at hs
 ·rw[ca,zb]at hs
  refine⟨_,_,hh.dom h.length (Ah _),au,au,λk hk=>?_,.inl rfl,hs⟩;rw[E1];split
  ·rfl
  ·rw[D1 (by simp;omega),D1 K]
 ·rename_i p
  rw[bw]at hs;split at hs
  ·rename_i hd;rw[jj]at hs;have Pj:=(List.getElem?_eq_some_iff.1 hd).1;exact⟨_,_,(hh.blk p _ hd).1,by simpa using Pj,by simp[Pj],λk hk=>by simp[hk.symm],.inr ⟨rfl,rfl,Pj⟩,hs⟩
  ·exact hs.elim
theorem if9 {az us:List ak} {off:Nat} (hl:off+us.length<=az.length):wr az off us=az.take off++us++az.drop (off+us.length):=by
 apply ED;intro t;rw[yf _ _ _ _ hl,IA,E1];have M:(az.take off).length=off:=by simp;omega
 rw[M];by_cases Q:t<off
 ·rw[AU K,Ad Q,E5,Ad Q]
 ·rw[AU Q,E1]
  by_cases h3:t<off+us.length
  ·rw[Ad ⟨K,h3⟩,Ad K]
  ·rw[AU K,AU K,EU];congr 1;omega
theorem hpl {z:List ak} (n:Nat):(List.replicate n z).flatten.length=n*z.length:=by
 induction n with
 |zero=>simp|succ n ih=>rw[IB,Jn,Du,ih,DO];omega
theorem tm {p j:Nat} {o:AD} (hl:bp (h.set p o) j):bp h j∨p=j:=by
 by_cases e:p=j
 ·exact .inr e
 ·left;unfold bp fk at *;rw[bw]at *;rw[Be,AU e]at hl;exact hl
theorem Ent {k j:Nat} (hl:bp (h.set k .hid) j):bp h j:=by
 rcases gz hl with ⟨_,_,g⟩|⟨_,_,_,_,g⟩
 ·exact eJ (hide_get g au).1
 ·exact iq (hide_get g au).1
theorem Cs {p k:Nat} {x y:Option (Nat×Nat×Nat)} (hk:zR ν p x k=some y):ν k=some y∨(p=k/\y=x):=by
 rw[gy]at hk;split at hk
 ·rename_i e;cases hk;exact .inr ⟨e.symm,rfl⟩
 ·exact .inl hk
theorem zZ.put {p b c e:Nat} {o:AD} {ob:ar} {wn:List Nat} {pl plA:Option Nat} (S7:pl=some p) (hplA:plA=some b) (hh:h'=h.set p o) (hl:lh'=lh.set b ob):zZ ν (zR ν p (some (b,c,e))) wn pl plA h h' lh lh':=by
 subst S7 hplA hh hl;refine⟨au,λj hj _=>by rw[Be,AU (λe=>hj (by rw[e]))],λk x hk=>?_,au,λk hk=>?_,rfl⟩
 ·rcases Cs hk with M|⟨rfl,rfl⟩
  ·exact .inl M
  ·exact .inr ⟨rfl,λy hy=>by cases hy;exact .inl rfl⟩
 ·rcases tm hk with M|rfl
  ·exact .inl M
  ·exact .inr rfl
theorem zZ.hide {k:Nat} {wn:List Nat} {pl plA:Option Nat} (hm:zZ ν ν' wn pl plA (h.set k .hid) h' lh lh'):zZ ν ν' wn pl plA h h' lh lh' :=
 ⟨hm.len,hm.chg,hm.nw,by simpa using hm.hlen,λj hj=>by
   rcases hm.liv j hj with M|M
   ·exact .inl (Ent M)
   ·exact .inr M,hm.zz⟩
theorem u6 {n b:Nat} (hb:b≠0) (h:n*b<=140737488355328):n<=9223372036854775807:=by have:n*1<=n*b:=Nat.mul_le_mul_left n (Nat.one_le_iff_ne_zero.2 hb);omega
theorem tX (hh:HR w0 ν nV nS h lh) {pl plA:Option Nat} (hp:K1 nV nS pl plA) {ty:TypeId} {esz n m c':Nat} {f g:be} {old new zero:List ak} {PR:V->List AD->AN α} {KA:ak->List ar->Prop}
 (hz:zero.length=esz) (ho:old.length=n*esz) (hn:new.length=m*esz) (hc:n+m<=c') (Ve:n+m<=9223372036854775807)
 (M:∀i,i<n->nX esz (f i)=true/\bK w0 ν.z ν (f i) ((old.drop (i*esz)).take esz)) (Q:∀i,i<m->nX esz (g i)=true/\bK w0 ν.z ν (g i) ((new.drop (i*esz)).take esz))
 (hs:bU LP (gx pl h (.gl esz (n+m) (bc n f g) ty) λp h=>PR (.gs p (n+m)) h) Pg)
 (hK:∀v h' ν' a lh',(plA≠none->∀wn,zZ ν ν' wn pl plA h h' lh lh')->ν.sub ν'->HR w0 ν' nV nS h' lh'->vr w0 ν'.z ν' v a->bU LP (PR v h') Pg->KA a lh') :
 place plA lh (.cells (old++new++(List.replicate (c'-(n+m)) zero).flatten) ty) λb lh'=>KA (.slice (some (.l b 0)) (n+m) c') lh':=by
 refine aeu (o:=.gl esz (n+m) (bc n f g) ty) (c:=c') (e:=esz) hh hp au (λp b lh' hb SU=>.inr ⟨b,c',_,gA _ _ _,hb,?_,⟨hc,Ve⟩,λi hi=>?_⟩) hs (λp b h' lh' S4 SU hr Ra=>hK _ _ _ _ _ (λhn wn=>?_) (kX SU) hr ?_ Ra)
 ·rw[Du,Du,ho,hn,hpl,hz,← EP,← EP];congr 1;omega
 ·obtain⟨g1,g2⟩:=awh rfl ho hn M Q i hi;exact⟨g1,lE (kX SU) _ _ g2⟩
 ·rcases S4 with ⟨_,e1⟩|⟨e1,e2,e3,e4,_⟩
  ·exact(hn e1).elim
  ·exact zZ.put e1 e2 e3 e4
 ·simp only[vr];exact .inr ⟨b,c',esz,gA _ _ _,rfl,hc⟩
theorem Bp {p:Nat} (hp:ν p=some none):vr w0 lh ν (.gs p 0) (.slice none 0 0):=by unfold vr;exact .inl ⟨hp,rfl,rfl⟩
theorem r7 (f g:be) (i:Nat):bc 0 f g i=g i:=by
 unfold bc;have:Nat.blt i 0=false:=by
  cases hb:Nat.blt i 0 with
  |false=>rfl|true=>have:=Bf hb;omega
 rw[this];simp
theorem m63 (az:List ak) (off:Nat):wr az off []=az:=rfl
theorem i18 {α:Type} {l:List α} {i:Nat} {x:α} (h:l[i]? = some x):l.set i x=l:=by obtain⟨hi,rfl⟩:=List.getElem?_eq_some_iff.1 h;exact List.set_getElem_self hi
theorem im0 (hh:HR w0 ν nV nS h lh) {pl plA:Option Nat} (hp:K1 nV nS pl plA) {ty:TypeId} {esz bytes:Nat} {zero:List ak} {s x:V} {a a':ak} {PR:V->List AD->AN α} {KA:ak->List ar->Prop}
 (Qh:vr w0 ν.z ν s a) (nw11:vr w0 ν.z ν x a') (hz:zero.length=esz) (hs:bU LP (N8 pl h ty esz bytes s x PR) Pg)
 (hK:∀v h' ν' a lh',(plA≠none->∀wn,(∀l,kI h s=some l->∀k,k∈l->k∈wn)->zZ ν ν' wn pl plA h h' lh lh')->ν.sub ν'->HR w0 ν' nV nS h' lh'->vr w0 ν'.z ν' v a->bU LP (PR v h') Pg->KA a lh'):tY w0 lh plA ty esz bytes zero KA a a':=by
 unfold N8 at hs;split at hs
 ·exact hs.elim
 ·rename_i m g PX hsrc
  simp only[bU]at hs;obtain⟨rfl,hs⟩:=hs;obtain⟨PX,c2,new,rfl,hnew,TT,s7,Qo⟩:=axj hh nw11 hsrc;have hKp:∀ v h' ν' a lh',(plA≠none->∀ wn,zZ ν ν' wn pl plA h h' lh lh')->ν.sub ν'->HR w0 ν' nV nS h' lh'->vr w0 ν'.z ν' v a->bU LP (PR v h') Pg->KA a lh' :=
   λv h' ν' a lh' hc=>hK v h' ν' a lh' λS7 wn _=>hc S7 wn
  have hKh:∀ k v h' ν' a lh',(plA≠none->∀ wn,zZ ν ν' wn pl plA (h.set k .hid) h' lh lh')->ν.sub ν'->HR w0 ν' nV nS h' lh'->vr w0 ν'.z ν' v a->bU LP (PR v h') Pg->KA a lh' :=
   λk v h' ν' a lh' hc=>hKp v h' ν' a lh' λS7 wn=>(hc S7 wn).hide
  have n23:plA≠none->pl≠none:=λhn=>by
   rcases hp with ⟨e1,e2⟩|⟨p,e1,e2⟩
   ·exact(hn e2).elim
   ·rw[e1];simp
  have hvirt:∀ {h0 h':List AD} {p:Nat} {o:AD} {wn:List Nat},plA≠none->(pl=none∨(pl=some p/\h'=h0.set p o/\p<h0.length))->zZ ν (zR ν p none) wn pl plA h0 h' lh lh:=by
   intro h0 h' p o wn hn hx;rcases hx with e1|⟨e1,e2,_⟩
   ·exact(n23 hn e1).elim
   ·subst e2
    refine⟨rfl,λ_ _ _=>rfl,λk x hk=>?_,au,λk hk=>?_,rfl⟩
    ·rcases Cs hk with M|⟨rfl,rfl⟩
     ·exact .inl M
     ·exact .inr ⟨e1,λy hy=>by cases hy⟩
    ·rcases tm hk with M|rfl
     ·exact .inl M
     ·exact .inr e1
  have hmove:∀ {k p b c ez c2 e2:Nat} {h':List AD} {o:AD} {ob:ar} {wn:List Nat},plA≠none->ν k=some (some (b,c2,e2))->k∈wn->(pl=none∨(pl=some p/\h'=(h.set k .hid).set p o/\p<(h.set k .hid).length))->zZ ν (zR ν p (some (b,c,ez))) wn pl plA h h' lh (lh.set b ob):=by
   intro k p b c ez c2 e2 h' o ob wn hn hk hw hx;rcases hx with e1|⟨e1,e3,_⟩
   ·exact(n23 hn e1).elim
   ·subst e3
    refine⟨au,λj _ hj=>by rw[Be,AU (hj k _ hw hk)],λk' x RX=>?_,au,λk' RX=>?_,rfl⟩
    ·rcases Cs RX with M|⟨rfl,rfl⟩
     ·exact .inl M
     ·exact .inr ⟨e1,λy hy=>by cases hy;exact .inr ⟨k,_,hw,hk,rfl⟩⟩
    ·rcases tm RX with M|rfl
     ·exact .inl (Ent M)
     ·exact .inr e1
  split at hs
  ·-- nil
   simp only[bU,Ae,DJ,EY]at hs
   let ⟨⟨Qu,RZ⟩,hs⟩:=hs
   simp only[vr]at Qh;subst Qh;have hb:bytes≠0:=λe=>by subst e;simp at RZ
   refine⟨new,hnew,λQm=>?_,λPj=>⟨[],by simp[cellsOf],?_,.inr hb,λc' Rw=>?_⟩⟩
   ·have hm:m=0:=by omega
    subst hm
    let ⟨p,h',e1,e2,e3,e4,e6,e5⟩:=qE hh hs
    let ⟨r1,r2⟩:=hh.virt e1 e2 e3 e4
    exact hKp _ _ _ _ _ (λhn wn=>hvirt hn e6) r2 r1 (Bp (gA _ _ _)) e5
   ·exact growslice_fits Pj (by simpa using Qu)
   ·have e0:bc 0 (λ_=>[]) g=g:=funext λi=>r7 _ g i;have:=tX (n:=0) (f:=λ_=>[]) (old:=[]) hh hp (PR:=PR) (KA:=KA) (ty:=ty) (c':=c') (g:=g) (m:=m) hz au TT Rw (by rw[DZ];exact u6 hb (by simpa using Qu)) (λi hi=>by omega) Qo (by rw[e0];simpa using hs) hKp;exact this
  ·-- a list
   rename_i k n;rw[bw]at hs;split at hs
   ·rename_i e n' f ty' hk
    cases hc:(Nat.beq e esz&&Nat.beq ty ty') with
    |false=>rw[hc]at hs;exact hs.elim
    |true=>
      rw[hc]at hs;simp only[Ae]at hc;have:=Ap hc.1;subst this;have:=Ap hc.2;subst this;simp only[cond_true,bU,Ae,DJ,EY]at hs
      let ⟨⟨⟨WV,Qu⟩,RZ⟩,hs⟩:=hs
      have hb:bytes≠0:=λe=>by subst e;simp at RZ
      rw[jj]at hs;have S6:=iq hk;have hname:kI h (.gs k n)=some [k]:=by simp only[kI];unfold bp at S6;rw[S6];rfl
      simp only[vr]at Qh;rcases hh.blk k _ hk with ⟨M,Q⟩|⟨b,c,az,M,Q,h3,hn,h5⟩
      ·rcases Qh with ⟨_,h3,h4⟩|⟨b,c,e,h3,_⟩
       ·subst h3 h4
        have e0:bc 0 f g=g:=funext λi=>r7 _ g i;refine⟨new,hnew,λQm=>?_,λPj=>⟨[],by simp[cellsOf],?_,.inr hb,λc' Rw=>?_⟩⟩
        ·have hm:m=0:=by omega
         subst hm
         let ⟨p,h',e1,e2,e3,e4,e6,e5⟩:=qE (hh.hide1 k) hs
         let ⟨r1,r2⟩:=(hh.hide1 k).virt e1 e2 e3 e4
         exact hKh k _ _ _ _ _ (λhn wn=>hvirt hn e6) r2 r1 (Bp (gA _ _ _)) e5
        ·exact growslice_fits Pj (by simpa using Qu)
        ·exact tX (n:=0) (f:=f) (old:=[]) (hh.hide1 k) hp (PR:=PR) (KA:=KA) (c':=c') (g:=g) (m:=m) hz au TT Rw (by rw[DZ];exact u6 hb (by simpa using Qu)) (λi hi=>by omega) Qo (by simpa using hs) (hKh k)
       ·rw[M]at h3;cases h3
      ·rcases Qh with ⟨h6,_⟩|⟨b',c',e',h6,rfl,hnc0⟩
       ·rw[M]at h6;cases h6
       ·rw [M]at h6
        obtain⟨rfl,rfl,rfl⟩:_=b'/\_=c'/\_=e':=by simpa using h6
        have TS:n*e<=c*e:=DY e K;have Y9:(az.take (n*e)).length=n*e:=by simp;omega
        have hold:∀i,i<n->nX e (f i)=true/\bK w0 ν.z ν (f i) (((az.take (n*e)).drop (i*e)).take e):=λi hi=>by rw[oJ hi];exact h5 i K
        refine⟨new,hnew,λQm=>⟨az,_,Q,s7,?_,?_⟩,λPj=>⟨az.take (n*e),?_,?_,.inr hb,λc' Rw=>?_⟩⟩
        ·rw[DZ,TT,← EP,h3];exact DY e Qm
        ·rw[DZ]
         let ⟨p,h',e1,e2,e3,e4,e6,e5⟩:=qE (hh.hide1 k) hs
         have hfit:n*e+new.length<=az.length:=by rw[TT,← EP,h3];exact DY e Qm
         let ⟨r1,r2⟩:=hh.move (az:=wr az (n*e) new) e1 e2 M S6 e3 e4 ⟨_,_,Q⟩ (by rw[qz];exact h3) ⟨Qm,u6 hb Qu⟩ (awh (if9 hfit) Y9 TT hold Qo)
         exact hK _ _ _ _ _ (λhn wn hw=>hmove hn M (hw _ hname k Eh) e6) r2 r1 (by simp only[vr];exact .inr ⟨b,c,e,gA _ _ _,rfl,Qm⟩) e5
        ·simp only[cellsOf,lds,Q];rw[Ad K];simp
        ·exact growslice_fits Pj Qu
        ·exact tX (hh.hide1 k) hp (PR:=PR) (KA:=KA) (c':=c') hz Y9 TT Rw (u6 hb Qu) hold Qo hs (hKh k)
   ·exact hs.elim
  ·-- a block of a known size
   rename_i k off n c;split at hs
   ·rename_i m' f q' si
    have new6:∃ r,Gr h esz (.ss k off n c)=some (n,f,true)/\m'=n/\q'=r:=by
     refine⟨q',?_⟩;have:=si;unfold Gr at this;simp only[bw]at this;split at this
     ·split at this
      ·cases hd:(List.all _ V.one) with
       |false=>rw[hd]at this;cases this
       |true=>
         rw[hd]at this;simp only[cond_true]at this;split at this
         ·cases this;exact⟨si,rfl,rfl⟩
         ·cases this;exact⟨si,rfl,rfl⟩
      ·cases this
     ·cases this
    obtain⟨_,hsrc2',rfl,_⟩:=new6
    let ⟨qs,cs,old,e1,hold,Y9,izb25,helo⟩:=axj hh Qh hsrc2'
    have hvs':=Qh;simp only[vr]at hvs';obtain⟨b,c',e',hν,rfl⟩:=hvs';cases e1;split at hs
    ·rename_i TO Zi
     rw[bw]at hs;split at hs
     ·rename_i ty' hk
      cases hc:(Nat.beq ty ty'&&Nat.beq off 0) with
      |false=>rw[hc]at hs;exact hs.elim
      |true=>
        rw[hc]at hs;simp only[Ae]at hc;have:=Ap hc.1;subst this;have:=Ap hc.2;subst this;simp only[cond_true,bU,Ae,DJ,EY]at hs
        let ⟨⟨Qu,RZ⟩,hs⟩:=hs
        have hb:bytes≠0:=λe=>by subst e;simp at RZ
        rw[jj]at hs;have S6:=eJ hk;have hname:kI h (.ss k 0 0 0)=some [k]:=by simp only[kI];unfold bp at S6;rw[S6];rfl
        let ⟨b2,c2',e2',az,M,Q,h3⟩:=hh.blk k _ hk
        rw[hν]at M;obtain⟨rfl,rfl,rfl⟩:_=b2/\_=c2'/\_=e2':=by simpa using M
        simp only[bK]at h3;subst h3;have e0:bc 0 f g=g:=funext λi=>r7 _ g i;refine⟨new,hnew,λQm=>⟨[],_,Q,s7,?_,?_⟩,λPj=>⟨old,hold,?_,.inr hb,λc' Rw=>?_⟩⟩
        ·have hm:m=0:=by omega
         subst hm;simp at TT;subst TT;simp
        ·have hm:m=0:=by omega
         subst hm;simp at TT;subst TT
         let ⟨p,h',e1,e2,e3,e4,e6,e5⟩:=qE (hh.hide1 k) hs
         let ⟨r1,r2⟩:=hh.renu (az:=[]) e1 e2 hν S6 e3 e4 ⟨_,_,Q⟩ rfl
         exact hK _ _ _ _ _ (λhn wn hw=>hmove hn hν (hw _ hname k Eh) e6) r2 r1 (by unfold vr;exact .inr ⟨b,0,esz,gA _ _ _,rfl,Ah _⟩) e5
        ·exact growslice_fits Pj (by simpa using Qu)
        ·exact tX (n:=0) (f:=f) (hh.hide1 k) hp (PR:=PR) (KA:=KA) (c':=c') (g:=g) (m:=m) hz Y9 TT Rw (by rw[DZ];exact u6 hb (by simpa using Qu)) (λi hi=>by omega) Qo (by rw[e0];simpa using hs) (hKh k)
     ·exact hs.elim
    ·have V7:bU LP (.ob (decide (c<m'+m/\(m'+m)*bytes<=140737488355328)&&!Nat.beq bytes 0) (gx pl h (.gl esz (m'+m) (bc m' f g) ty) λp h=>PR (.gs p (m'+m)) h)) Pg->tY w0 lh plA ty esz bytes zero KA (.slice (some (.l b off)) m' c) (.slice PX m c2):=λhs=>by
      simp only[bU,Ae,DJ,EY]at hs
      let ⟨⟨⟨Pj,Qu⟩,RZ⟩,hs⟩:=hs
      have hb:bytes≠0:=λe=>by subst e;simp at RZ
      refine⟨new,hnew,λQm=>by omega,λ_=>⟨old,hold,growslice_fits Pj Qu,.inr hb,λc' Rw=>?_⟩⟩;exact tX hh hp (PR:=PR) (KA:=KA) (c':=c') hz Y9 TT Rw (u6 hb Qu) helo Qo hs hKp
     split at hs
     ·simp only [bU]at hs
      cases hm:Nat.beq m 0 with
      |false=>exact V7 (hs.2 hm)
      |true=>
        let ⟨TS,TX⟩:=hs.1 hm
        have iz16:m=0:=Ap hm;have TS:=Bf TS;subst iz16;rw[Nat.zero_mul]at TT;have WV:new=[]:=List.length_eq_zero_iff.1 TT;subst WV;have Um:=hsrc2';unfold Gr at Um;simp only[bw]at Um;split at Um
        ·rename_i csV ty0 hk
         let ⟨b2,c2',e2',az,M,Q,h3⟩:=hh.blk k _ hk
         rw[hν]at M;obtain⟨rfl,rfl,rfl⟩:_=b2/\_=c2'/\_=e2':=by simpa using M
         have hbd:off+m'*esz<=az.length:=by
          have ho:=hold;simp only[cellsOf,lds,Q]at ho;split at ho
          ·assumption
          ·cases ho
         refine⟨[],hnew,λ_=>⟨az,_,Q,s7,by simpa using hbd,?_⟩,λPj=>by omega⟩;rw[m63,show lh.set b (.cells az ty0)=lh from i18 Q];exact hK _ _ ν _ _ (λhn wn hw=>zZ.refl ..) (Nu.sub_refl _) hh Qh TX
        ·cases Um
     ·exact V7 hs
   ·exact hs.elim
  ·exact hs.elim
end
section
variable {w0:World} {ν ν':Nu} {nV nS Pn:Nat} {h h':List AD} {lh lh':List ar} {α:Type} {LP:fE} {Pg:α->Prop} {e:bT} {sl:List ak} {ctx:Bool} {Pe:FuncId->ci}
theorem ajc (c:Bool):∀ {x y z:V} {a b:ak},Em c x y=some z->(c=true->vr w0 lh ν x a)->(c=false->vr w0 lh ν y b)->vr w0 lh ν z (if c then a else b):=by
 have key:∀ (x:V),(∀ (y z:V) (a b:ak),Em c x y=some z->(c=true->vr w0 lh ν x a)->(c=false->vr w0 lh ν y b)->vr w0 lh ν z (if c then a else b)):=by
  intro x
  refine V.rec (motive_1:=λx=>∀ (y z:V) (a b:ak),Em c x y=some z->(c=true->vr w0 lh ν x a)->(c=false->vr w0 lh ν y b)->vr w0 lh ν z (if c then a else b))
   (motive_2:=λxs=>∀(ys zs:List V) (az bs:List ak),LL c xs ys=some zs->(c=true->bK w0 lh ν xs az)->(c=false->bK w0 lh ν ys bs)->bK w0 lh ν zs (if c then az else bs))
   ?_ ?_ ?_ ?_ ?_ ?_ ?_ ?_ ?_ ?_ ?_ ?_ ?_ ?_ ?_ ?_ ?_ ?_ ?_ ?_ ?_ ?_ x
  case refine_1=>
   intro k n y z a b hm M Q;cases y<;>simp[Em]at hm<;>try cases hm
   split at hm
   ·rename_i he _;subst he;cases hm
    simp[vr]at *
    cases c
    ·rw[Q rfl];rfl
    ·rw[M rfl];rfl
   ·cases hm
  case refine_2=>
   intro p y z a b hm M Q;simp[Em]at hm;split at hm
   ·rename_i PX hq
    cases hm;cases c
    ·have Q:=Q rfl;cases y<;>simp[pi]at hq<;>cases hq<;>(simp[vr]at Q ⊢;subst Q;rfl)
    ·have M:=M rfl;simp[vr]at M ⊢;subst M;rfl
   ·cases hm
  case refine_3=>
   intro p y z a b hm M Q;simp[Em]at hm;split at hm
   ·rename_i PX hq
    cases hm;cases c
    ·have Q:=Q rfl;cases y<;>simp[pi]at hq<;>cases hq<;>(simp[vr]at Q ⊢;subst Q;rfl)
    ·have M:=M rfl;simp[vr]at M ⊢;subst M;rfl
   ·cases hm
  case refine_4=>
   intro s y z a b hm M Q;cases y<;>simp[Em]at hm<;>try cases hm
   simp[vr]at *
   cases c
   ·rw[Q rfl];rfl
   ·rw[M rfl];rfl
  case refine_5=>
   intro cs ih y z a b hm M Q;cases y<;>simp[Em]at hm<;>try cases hm
   split at hm
   ·rename_i zs hz
    cases hm;simp[vr]at *
    cases c
    ·obtain⟨az,rfl,g⟩:=Q rfl;have:=ih _ _ [] az hz (λh=>by cases h) (λ_=>g);exact⟨az,rfl,by simpa using this⟩
    ·obtain⟨az,rfl,g⟩:=M rfl;have:=ih _ _ az [] hz (λ_=>g) (λh=>by cases h);exact⟨az,rfl,by simpa using this⟩
   ·cases hm
  case refine_21=>
   intro ys zs az bs hm M Q;cases ys<;>simp[LL]at hm<;>cases hm;simp[bK]at *
   cases c
   ·simpa using Q rfl
   ·simpa using M rfl
  case refine_22=>
   intro x xs ihx ihxs ys zs az bs hm M Q;cases ys with
   |nil=>simp[LL]at hm
   |cons y ys=>
     simp[LL]at hm;split at hm
     ·rename_i z hz
      split at hm
      ·rename_i zs' Zw
       cases hm;cases c
       ·have Q:=Q rfl;simp[bK]at Q ⊢;obtain⟨b,bs,rfl,g1,g2⟩:=Q;have i1:=ihx y z (.any) b hz (λh=>by cases h) (λ_=>g1);have i2:=ihxs ys zs' [] bs Zw (λh=>by cases h) (λ_=>g2);exact⟨b,bs,rfl,by simpa using i1,by simpa using i2⟩
       ·have M:=M rfl;simp[bK]at M ⊢;obtain⟨b,bs,rfl,g1,g2⟩:=M;have i1:=ihx y z b (.any) hz (λ_=>g1) (λh=>by cases h);have i2:=ihxs ys zs' bs [] Zw (λ_=>g2) (λh=>by cases h);exact⟨b,bs,rfl,by simpa using i1,by simpa using i2⟩
      ·cases hm
     ·cases hm
  all_goals (intros;rename_i hm _ _;simp[Em]at hm)
 intro x y z a b h0 M Q;exact key x y z a b h0 M Q
theorem yaI:∀ {xs ys:List V} {az bs:List ak} {b:Bool},FP xs ys=some b->bK w0 lh ν xs az->bK w0 lh ν ys bs->cu az bs=some b
 |[],[],az,bs,b,hm,M,Q=>by simp[bK]at M Q;subst M Q;simp[FP,cu]at *;exact hm
 |[],y::ys,az,bs,b,hm,M,Q=>by cases y<;>simp[FP]at hm
 |x::xs,[],az,bs,b,hm,M,Q=>by cases x<;>simp[FP]at hm
 |x::xs,y::ys,az,bs,b,hm,M,Q=>by
   cases x<;>cases y<;>simp[FP]at hm<;>try cases hm
   split at hm
   ·rename_i he _
    subst he;split at hm
    ·rename_i r hr;cases hm;simp[bK,vr]at M Q;obtain⟨_,az,rfl,rfl,M⟩:=M;obtain⟨_,bs,rfl,rfl,Q⟩:=Q;simp[cu,Dk,yaI hr M Q,DK]
    ·cases hm
   ·cases hm
theorem hX' {isMax:Bool} {KA:ak->Prop}:∀ {xs:List V} {x z:V} {az:List ak} {a:ak},JG isMax x xs=some z->vr w0 lh ν x a->bK w0 lh ν xs az->(∀ r,vr w0 lh ν z r->KA r)->mm2 isMax a az KA
 |[],x,z,az,a,hm,M,Q,hK=>by simp[bK]at Q;subst Q;cases x<;>(simp[JG]at hm;cases hm;unfold mm2;exact hK a M)
 |y::xs,x,z,az,a,hm,M,Q,hK=>by
   cases x<;>try (simp[JG]at hm;done)
   cases y<;>simp[JG]at hm<;>try cases hm
   split at hm
   ·rename_i he _;subst he;simp[bK,vr]at M Q;obtain⟨_,az,rfl,rfl,Q⟩:=Q;subst M;unfold mm2;exact⟨rfl,hX' hm (by simp[vr]) Q hK⟩
   ·cases hm
theorem nh5 {op:BinOp} {k:IntKind} {x y:Int} {PR:V->AN α} {KA:ak->Prop} (hc:ctx=true) (hs:bU LP (SB ctx op k x y PR) Pg) (hK:∀ v a,vr w0 ν.z ν v a->bU LP (PR v) Pg->KA a):ue op k x y KA:=by
 cases op<;>simp[SB]at hs<;>simp[ue]
 case quo=>let ⟨M,Q⟩:=gf hc hs;exact⟨M,hK _ _ (by simp[vr]) Q⟩
 case rem=>let ⟨M,Q⟩:=gf hc hs;exact⟨M,hK _ _ (by simp[vr]) Q⟩
 case shl=>let ⟨M,Q⟩:=gf hc hs;exact⟨M,hK _ _ (by simp[vr]) Q⟩
 case shr=>let ⟨M,Q⟩:=gf hc hs;exact⟨M,hK _ _ (by simp[vr]) Q⟩
 all_goals first|exact hs.elim|exact hK _ _ (by simp[vr]) hs
theorem hsl {op:BinOp} {x y:V} {a b:ak} {PR:V->AN α} {KA:ak->Prop} (hc:ctx=true) (M:vr w0 ν.z ν x a) (Q:vr w0 ν.z ν y b) (hs:bU LP (Dz ctx op x y PR) Pg) (hK:∀ v a,vr w0 ν.z ν v a->bU LP (PR v) Pg->KA a):Rv op a b KA:=by
 unfold Dz at hs;split at hs
 ·simp [vr]at M Q;subst M Q
  split at hs
  ·rename_i he _;subst he;exact⟨rfl,nh5 hc hs hK⟩
  ·exact hs.elim
 ·simp[vr]at M Q;subst M Q
  simp[Rv];split at hs
  ·exact hK _ _ (by simp[vr]) hs
  ·exact hK _ _ (by simp[vr]) hs
  ·let ⟨g1,g2⟩:=gf hc hs;exact⟨g1,hK _ _ (by simp[vr]) g2⟩
  ·exact hs.elim
 ·exact hs.elim
theorem pu {v:V} {a:ak} {b:Bool} (hv:vr w0 lh ν v a) (hb:pi v=some b):a=.bool b:=by cases v<;>simp[pi]at hb<;>cases hb<;>(simp[vr]at hv;exact hv)
theorem hkw {cs ds:List V} {off:Nat} {a:ak} (hv:vr w0 ν.z ν (.pd cs) a) (hd:tz off cs=some ds):∃p,a=.ptr (some p)/\vr w0 ν.z ν (.pd ds) (.ptr (some (p.add off))):=by simp only[vr]at hv;obtain⟨p,az,rfl,M,Q,h3⟩:=hv;obtain⟨g1,rfl⟩:=xw hd;refine⟨p,rfl,?_⟩;simp only[vr];have:=akD (i:=off) (m:=cs.length-off) (lh:=ν.z) Q K (ni _);refine⟨_,_,rfl,by cases p<;>exact M,by rw[Iz];exact this,?_,List.all_eq_true.2 λx hx=>List.all_eq_true.1 h3.2 x (List.mem_of_mem_drop hx)⟩;have hl:=KF Q;rw[I5 (by simp;omega)];exact g8 off h3.1
theorem kh (y d:Nat) (PR:Nat->Prop):bnd none y d PR=PR d:=rfl
theorem R91 {xs:List V} {v:V} (hs:Yp h xs v=some h'):∃ k o,h'=h.set k o/\bp h k:=by
 unfold Yp at hs;split at hs
 ·rename_i k off
  rw[bw]at hs;split at hs
  ·rename_i cs ty hk
   split at hs
   ·cases hs;exact⟨k,_,jj _ _ _,eJ hk⟩
   ·cases hs
  ·cases hs
 ·rename_i k i j
  rw[bw]at hs;split at hs
  ·rename_i e n f ty hk
   cases hb:Nat.ble (j+cj xs) e with
   |true=>rw[hb]at hs;cases hs;exact⟨k,_,jj _ _ _,iq hk⟩|false=>rw[hb]at hs;cases hs
  ·cases hs
 ·cases hs
theorem x29 {xs:List V} {v:V} (hs:Yp h xs v=some h'):h'.length=h.length:=by obtain⟨k,o,rfl,_⟩:=R91 hs;simp
theorem ic9 {xs:List V} {v:V} {j:Nat} (hs:Yp h xs v=some h') (hj:bp h' j):bp h j:=by
 obtain⟨k,o,rfl,hk⟩:=R91 hs;rcases tm hj with M|rfl
 ·exact M
 ·exact hk
theorem hbr:∀ (xs ys cs:List ak) (o:Nat),wr cs o (xs++ys)=wr (wr cs o xs) (o+xs.length) ys
 |[],ys,cs,o=>by simp[wr]
 |x::xs,ys,cs,o=>by simp[J0,wr,Dl];rw[hbr xs ys,show o+1+xs.length=o+(xs.length+1) by omega]
theorem hq' (n:Nat) (z:List ak):(List.replicate (n+1) z).flatten=(List.replicate n z).flatten++z:=by rw[List.replicate_succ',List.flatten_append];simp
theorem afb {α:Type}:∀ (l z:List α),l.length=z.length->sg l 0 z=some z
 |[],[],_=>rfl|[],_::_,h=>by cases h
 |_::_,[],h=>by cases h
 |x::l,y::z,h=>by simp[sg];rw[afb l z (by simpa using h)]
theorem afx (hh:HR w0 ν nV nS h lh) {k e n' off:Nat} {f:be} {ty:TypeId} {z:List V} {za:List ak} (hk:h[k]? = some (.gl e n' f ty)) {b c:Nat} (hν:ν k=some (some (b,c,e))) (hz:bK w0 ν.z ν z za) (ho:nX e z=true) :
 ∀n,off+n<=n'->∃cs,lh[b]? = some (.cells cs ty)/\off*e+n*e<=cs.length/\HR w0 ν nV nS (h.set k (.gl e n' (λi=>cond (Nat.ble off i&&Nat.blt i (off+n)) z (f i)) ty)) (lh.set b (.cells (wr cs (off*e) (List.replicate n za).flatten) ty)):=by
 have hb:=hh.blk k _ hk;have sA:=ho;simp only[nX,Ae]at sA;have X8:z.length=e:=by have:=Ap sA.1;rwa [ca]at this
 have Zs:za.length=e:=by rw[b5 hz,X8]
 rcases hb with ⟨M,_⟩|⟨b',c',az,M,Q,h3,h4,h5⟩
 ·rw[hν]at M;cases M
 rw[hν]at M;obtain⟨rfl,rfl⟩:b=b'/\c=c':=by simpa using M
 intro n;induction n with
 |zero=>
   intro hn;refine⟨az,Q,by rw[h3,Nat.zero_mul,Ej];exact DY e K,?_⟩;have e1:(λi=>cond (Nat.ble off i&&Nat.blt i (off+0)) z (f i))=f:=by
    funext i;have:(Nat.ble off i&&Nat.blt i (off+0))=false:=by
     cases h6:Nat.ble off i with
     |false=>rfl
     |true=>
       have h7:=Bf h6;cases hb:Nat.blt i (off+0) with
       |false=>rfl|true=>have:=Bf hb;omega
    rw[this];rfl
   rw[e1];have e2:h.set k (.gl e n' f ty)=h:=by
    apply ED;intro j;rw[Be];split
    ·rename_i e;subst e;let ⟨q1,q2⟩:=List.getElem?_eq_some_iff.1 hk;simp[q1,q2]
    ·rfl
   have e3:lh.set b (.cells (wr az (off*e) (List.replicate 0 za).flatten) ty)=lh:=by
    apply ED;intro j;rw[Be];split
    ·rename_i e;subst e;let ⟨q1,q2⟩:=List.getElem?_eq_some_iff.1 Q;simp[q1,q2,wr]
    ·rfl
   rw[e2,e3];exact hh
 |succ n ih=>
   intro hn
   let ⟨cs,g1,g2,g3⟩:=ih K
   have WT:k<h.length:=(List.getElem?_eq_some_iff.1 hk).1;have SG:b<lh.length:=(List.getElem?_eq_some_iff.1 Q).1;have Qe:Yp (h.set k (.gl e n' (λi=>cond (Nat.ble off i&&Nat.blt i (off+n)) z (f i)) ty)) z (.pe k (off+n) 0)=some (h.set k (.gl e n' (λi=>cond (Nat.ble off i&&Nat.blt i (off+(n+1))) z (f i)) ty)):=by
    have Zl:(cond (Nat.ble off (off+n)&&Nat.blt (off+n) (off+n)) z (f (off+n))).length=z.length:=by
     have hf:=(h5 (off+n) K).1;simp only[nX,Ae]at hf;have:=Ap hf.1;rw[ca]at this;cases (Nat.ble off (off+n)&&Nat.blt (off+n) (off+n)) with
     |true=>rfl|false=>show(f (off+n)).length=_;rw[this,X8]
    simp only[Yp];rw[bw,Be,Ad rfl,Ad WT];dsimp only
    have hw:=f10 (Zl.trans X8) 0 z;rw[afb _ _ Zl]at hw;unfold K9 at hw;cases hble:Nat.ble (0+cj z) e with
    |false=>rw[hble]at hw;cases hw|true=>
    rw[hble]at hw;simp only[cond_true,Ak]at hw ⊢;rw[jj,List.set_set];congr 3;funext i;unfold Xl;rw[hw];cases hi:Nat.beq i (off+n) with
    |true=>have:=Ap hi;subst this;have M:Nat.ble off (off+n)=true:=EC K;have Q:Nat.blt (off+n) (off+(n+1))=true:=EC K;rw[M,Q];rfl
    |false=>
      have RY:i≠off+n:=λe=>by subst e;rw[Nat.beq_refl]at hi;cases hi
      have:Nat.blt i (off+(n+1))=Nat.blt i (off+n):=by
       cases hb:Nat.blt i (off+n) with
       |true=>have:=Bf hb;exact EC K
       |false=>
         cases RP:Nat.blt i (off+(n+1)) with
         |false=>rfl
         |true=>have h7:=Bf RP;have:Nat.blt i (off+n)=true:=EC K;rw[this]at hb;cases hb
      rw[this];rfl
   rw[Q]at g1;cases g1
   let ⟨b2,o2,cs2,Ai,k2,c2,e2',e1,e2,e3,e4,e5,e6⟩:=fz3 g3 (v:=.pe k (off+n) 0) (a:=.ptr (some (.l b ((off+n)*e+0)))) (by simp only[vr];exact⟨b,c,e,hν,rfl⟩) hz sA.2 Qe (λk1 i1 j1 he e3 n3 f3 ty3 h6=>by cases he;rw[Be,Ad rfl,Ad WT]at h6;cases h6;omega)
   obtain⟨rfl,rfl⟩:b=b2/\(off+n)*e+0=o2:=by simpa using e1
   rw[Be,Ad rfl,Ad SG]at e2;cases e2;refine⟨az,Q,by rw[qz]at e3;rw[DO];rw[EP]at e3;omega,?_⟩;rw[hq',hbr];have Zl:(List.replicate n za).flatten.length=n*e:=by simp[Zs]
   rw[Zl];rw[List.set_set]at e4;rw[Ej,EP]at e4;exact e4
theorem Cw {cf:CF α} {md:Bool} {pl plA:Option Nat} {op:lZ} {PR:V->List AD->AN α} {KA:ak->List ar->Prop} {wn:List Nat} (QM:gY w0 ν Pn e sl) (hh:HR w0 ν nV nS h lh) (hc:ctx=true) (RB:uz w0 Pe LP md cf)
 (hp:K1 nV nS pl plA) (TU:md=true->∃l,Jv h e pl op=some l/\∀k,k∈l->k∈wn) (hs:bU LP (C0 cf ctx pl op e h PR) Pg)
 (hK:∀v h' ν' a lh',(md=true->zZ ν ν' wn pl plA h h' lh lh')->(mB op=true->ν'=ν/\h'=h/\lh'=lh)->ν.sub ν'->HR w0 ν' nV nS h' lh'->vr w0 ν'.z ν' v a->bU LP (PR v h') Pg->KA a lh'):dK w0 Pe sl lh plA KA op:=by
 have hK0:∀v a,vr w0 ν.z ν v a->bU LP (PR v h) Pg->KA a lh:=λv a hv hs=>hK v h ν a lh (λ_=>zZ.refl _ _ _ _ _ _) (λ_=>⟨rfl,rfl,rfl⟩) (Nu.sub_refl ν) hh hv hs
 have hplace:∀ {o:AD} {az:List ak} {ty:TypeId} {KP:Nat->List AD->AN α} {F:Nat->ak} {c ez:Nat},(md=true->∃ p,pl=some p)->mB op=false->o ≠ .dead->(∀ p b lh',lh'[b]? = some (.cells az ty)->ν p=none->FQ w0 (zR ν p (some (b,c,ez))) nV nS lh' p o) ->
  bU LP (gx pl h o KP) Pg->(∀p b h' lh',ν p=none->HR w0 (zR ν p (some (b,c,ez))) nV nS h' lh'->bU LP (KP p h') Pg->∃v,vr w0 ν.z (zR ν p (some (b,c,ez))) v (F b)/\bU LP (PR v h') Pg)->place plA lh (.cells az ty) λb lh'=>KA (F b) lh':=by
  intro o az ty KP F c ez S7 Qe Y5 hb hs hk
  refine aeu hh hp Y5 hb hs λp b h' lh' S4 SU hr Ra=>?_
  let ⟨v,hv,notf⟩:=hk p b h' lh' SU hr Ra
  refine hK v h' _ _ lh' (λhm=>?_) (λe=>by rw[Qe]at e;cases e) (kX SU) hr hv notf
  let ⟨p',hp''⟩:=S7 hm
  rcases S4 with ⟨g,_⟩|⟨e1,e2,e3,e4,_⟩
  ·rw[hp'']at g;cases g
  ·exact zZ.put e1 e2 e3 e4
 have hplN:∀ {z:List Nat},Jv h e pl op=some z->(match pl with|some p=>some [p]|none=>none:Option (List Nat))=some z->∃ p,pl=some p:=by
  intro z _ hz
  cases pl with
  |none=>cases hz
  |some p=>exact⟨p,rfl⟩
 cases op<;>simp only[C0]at hs<;>simp only[dK]
 case mov x=>
  let ⟨u,M,Q⟩:=bS QM hc hs
  exact hK0 _ _ M Q
 case pick c a b=>
  let ⟨u,M,Q⟩:=bS QM hc hs
  split at Q
  ·simp only[vr]at M;rw[M]
   let ⟨v,g1,g2⟩:=bS QM hc Q
   exact⟨λ_=>hK0 _ _ g1 g2,λe=>by cases e⟩
  ·simp only[vr]at M;rw[M]
   let ⟨v,g1,g2⟩:=bS QM hc Q
   exact⟨(λe=>by cases e),λ_=>hK0 _ _ g1 g2⟩
  ·rename_i c
   simp only[vr]at M;rw[M]
   subst hc
   have ha:∀ {x:V} {KK:V->AN α} {a:gn} {cc:Bool},bU LP (jA (true&&cc) (dR e a) KK) Pg->∃ u,(cc=true->vr w0 ν.z ν u (arg sl a))/\bU LP (KK u) Pg:=by
    intro x KK a cc hs
    have hv:=QM.arg a
    unfold jA at hs
    split at hs
    ·rename_i b u hb
     rw[hb]at hv
     simp only[bU]at hs
     simp only[vr]at hv
     exact⟨u,λe=>hv.1 (by subst e;simpa using hs.1),hs.2⟩
    ·exact⟨_,λ_=>hv,hs⟩
   let ⟨x,g1,h3⟩:=ha (x:=.any) Q
   let ⟨y,g2,h4⟩:=ha (x:=.any) h3
   split at h4
   ·rename_i z hz
    have hm:=ajc (a:=arg sl a) (b:=arg sl b) c hz g1 (λe=>g2 (by simp[e]))
    refine⟨λe=>?_,λe=>?_⟩
    ·subst e;exact hK0 _ _ (by simpa using hm) h4
    ·subst e;exact hK0 _ _ (by simpa using hm) h4
   ·simp only[bU]at h4
    exact⟨λe=>hK0 _ _ (g1 e) (h4.1 e),λe=>hK0 _ _ (g2 (by simp[e])) (h4.2 e)⟩
  ·simp only[bU]at Q
   exact absurd (Q.1 hc) aO
  ·exact Q.elim
 case new ty z=>
  refine hplace (o:=.cells (z.map I0) ty) (c:=0) (ez:=0) (F:=λb=>.ptr (some (.l b 0))) (λhm=>?_) rfl au (λp b lh' hb SU=>⟨b,0,0,z,gA _ _ _,hb,qC z⟩) hs (λp b h' lh' SU hr Ra=>⟨_,?_,Ra⟩)
  ·let ⟨l,g,_⟩:=TU hm;exact hplN g g
  ·simp only[vr];exact⟨b,0,0,gA _ _ _,rfl⟩
 case box ty x=>
  let ⟨u,M,Q⟩:=bS QM hc hs
  cases hf:u.flat with
  |false=>rw[hf]at Q;exact Q.elim
  |true=>
    rw[hf]at Q
    simp only[cond_true]at Q
    let ⟨g1,g2⟩:=yd M hf
    refine⟨g1,hplace (o:=.cells u.cells ty) (c:=0) (ez:=0) (F:=λb=>.ptr (some (.l b 0))) (λhm=>?_) rfl au (λp b lh' hb SU=>⟨b,0,0,_,gA _ _ _,hb,lE (kX SU) _ _ g2⟩) Q (λp b h' lh' SU hr Ra=>⟨_,?_,Ra⟩)⟩
    ·let ⟨l,g,_⟩:=TU hm;exact hplN g g
    ·simp only[vr];exact⟨b,0,0,gA _ _ _,rfl⟩
 case agg z ps=>
  exact vc QM hc (qC z) hs λcs az g1 g2=>hK0 _ _ (by simp only[vr];exact⟨az,rfl,g1⟩) g2
 case bsl ty n z ps=>
  refine vc QM hc (qC z) hs λcs az g1 g2=>?_
  refine hplace (o:=.cells cs ty) (c:=0) (ez:=0) (F:=λb=>.slice (some (.l b 0)) n n) (λhm=>?_) rfl au (λp b lh' hb SU=>⟨b,0,0,az,gA _ _ _,hb,lE (kX SU) _ _ g1⟩) g2 (λp b h' lh' SU hr Ra=>⟨_,?_,Ra⟩)
  ·let ⟨l,g,_⟩:=TU hm;exact hplN g g
  ·simp only[vr];exact⟨b,0,0,gA _ _ _,rfl⟩
 case ld a=>
  let ⟨u,M,Q⟩:=bS QM hc hs
  let ⟨Ul,h3⟩:=xe hc Q
  split at h3
  ·rename_i v hv
   let ⟨p,x,g1,g2,g3⟩:=GI hh M hv Ul
   rw[g1]
   exact⟨x,g2,hK0 _ _ g3 h3⟩
  ·exact h3.elim
 case lds n a=>
  let ⟨u,M,Q⟩:=bS QM hc hs
  let ⟨Ul,h3⟩:=xe hc Q
  split at h3
  ·rename_i v hv
   let ⟨p,x,g1,g2,g3⟩:=avQ hh M hv Ul
   rw[g1]
   exact⟨x,g2,hK0 _ _ (by simp only[vr];exact⟨x,rfl,g3⟩) h3⟩
  ·exact h3.elim
 case st n a x=>
  let ⟨u,M,Q,Y6⟩:=ab4 hc (QM.arg a) hs
  let ⟨v,h3,h4⟩:=bS QM hc Q
  let ⟨Ul,h5⟩:=xe hc h4
  cases hf:(v.flat&&Nat.beq (cj v.cells) n) with
  |false=>rw[hf]at h5;exact h5.elim
  |true=>
    rw[hf]at h5
    simp only[cond_true]at h5
    simp only[Ae]at hf
    let ⟨g1,g2⟩:=yd h3 hf.1
    have g3:=Ap hf.2
    rw[ca]at g3
    split at h5
    ·rename_i h' Qe
     let ⟨b,off,cs,ty,k,c,ez,e1,e2,e3,e4,e5,e6⟩:=fz3 hh M g2 (hp1 hf.1) Qe Ul
     rw[e1]
     have hl:=b5 g2
     refine⟨cs,ty,e2,g1,K,K,hK _ _ ν _ _ (λhm=>?_) (λe=>by cases e) (Nu.sub_refl ν) e4 (by simp only[vr,bK];exact⟨[],rfl,rfl⟩) h5⟩
     let ⟨l,q1,q2⟩:=TU hm
     simp only[Jv]at q1
     have:=Y6 _ _ q1
     subst this
     rw[e5]at q1;cases q1
     refine⟨au,λj _ hj=>by rw[Be,AU (hj k _ (q2 k Eh) e6)],λ_ _ h=>.inl h,?_,?_,rfl⟩
     ·exact x29 Qe
     ·exact λj hj=>.inl (ic9 Qe hj)
    ·exact h5.elim
 case nz x=>
  let ⟨u,M,Q⟩:=bS QM hc hs
  split at Q
  ·simp only[vr]at M;let ⟨b,c,ez,g1,g2⟩:=M;rw[g2];exact hK0 _ _ (by simp only[vr];exact⟨b,c,ez,g1,rfl⟩) Q
  ·simp only[vr]at M;let ⟨b,c,ez,g1,g2⟩:=M;rw[g2];exact hK0 _ _ (by simp only[vr];exact⟨b,c,ez,g1,rfl⟩) Q
  ·simp only[vr]at M;let ⟨p,az,g1,g2,g3,g4⟩:=M;rw[g1];exact hK0 _ _ (by simp only[vr];exact⟨p,az,rfl,g2,g3,g4⟩) Q
  ·simp only[vr]at M;let ⟨us,vs,g1,g2,g3⟩:=M;rw[g1];exact hK0 _ _ (by simp only[vr];exact⟨us,vs,rfl,g2,g3⟩) Q
  ·exact Q.elim
 case bin op x y=>
  let ⟨u,M,Q⟩:=bS QM hc hs
  let ⟨v,h3,h4⟩:=bS QM hc Q
  exact hsl hc M h3 h4 λv a hv hs=>hK0 v a hv hs
 case eqa neg n x y=>
  let ⟨u,M,Q⟩:=bS QM hc hs
  let ⟨v,h3,h4⟩:=bS QM hc Q
  split at h4
  ·rename_i xs ys
   simp only[vr]at M h3
   let ⟨az,g1,g2⟩:=M
   let ⟨bs,g3,g4⟩:=h3
   rw[g1,g3]
   split at h4
   ·rename_i b hb
    cases hn:Nat.beq (cj xs) n with
    |false=>rw[hn]at h4;exact h4.elim
    |true=>
      rw[hn]at h4
      have:=Ap hn
      rw[ca]at this
      exact⟨by rw[b5 g2];exact this,b,yaI hb g2 g4,hK0 _ _ (by simp only[vr]) h4⟩
   ·exact h4.elim
  ·exact h4.elim
 case eqb neg x y=>
  let ⟨u,M,Q⟩:=bS QM hc hs
  let ⟨v,h3,h4⟩:=bS QM hc Q
  split at h4
  ·rename_i a b ha hb
   rw[pu M ha,pu h3 hb]
   exact hK0 _ _ (by simp only[vr]) h4
  ·exact h4.elim
 case un op x=>
  let ⟨u,M,Q⟩:=bS QM hc hs
  split at Q
  ·simp only[vr]at M;rw[M];exact hK0 _ _ (by simp only[vr]) Q
  ·simp only[vr]at M;rw[M];exact hK0 _ _ (by simp only[vr]) Q
  ·simp only[vr]at M;rw[M];exact hK0 _ _ (by simp only[vr]) Q
  ·exact Q.elim
 case conv k x=>
  let ⟨u,M,Q⟩:=bS QM hc hs
  split at Q
  ·simp only[vr]at M;rw[M];exact hK0 _ _ (by simp only[vr]) Q
  ·exact Q.elim
 case mkf f xs ys=>
  split at hs
  ·let ⟨us,g1,g2⟩:=mC QM hc hs
   let ⟨vs,g3,g4⟩:=mC QM hc g2
   exact hK0 _ _ (by simp only[vr];exact⟨_,_,rfl,g1,g3⟩) g4
  ·exact hs.elim
 case fa off x=>
  let ⟨u,M,Q⟩:=bS QM hc hs
  split at Q
  ·simp only[vr]at M;let ⟨b,c,ez,g1,g2⟩:=M;rw[g2];exact hK0 _ _ (by simp only[vr];exact⟨b,c,ez,g1,rfl⟩) Q
  ·simp only[vr]at M;let ⟨b,c,ez,g1,g2⟩:=M;rw[g2];exact hK0 _ _ (by simp only[vr];exact⟨b,c,ez,g1,by simp[js.add,H9]⟩) Q
  ·split at Q
   ·rename_i ds hd
    let ⟨p,g1,g2⟩:=hkw M hd
    rw[g1];exact hK0 _ _ g2 Q
   ·exact Q.elim
  ·exact Q.elim
 case fld off n x=>
  let ⟨u,M,Q⟩:=bS QM hc hs
  split at Q
  ·simp only [vr]at M;let ⟨az,g1,g2⟩:=M;rw[g1]
   split at Q
   ·rename_i n
    split at Q
    ·rename_i ds hd
     obtain⟨q1,rfl⟩:=tS hd
     exact hK0 _ _ (by simp only[vr];exact⟨_,rfl,jl n (g8 off g2)⟩) Q
    ·exact Q.elim
   ·split at Q
    ·rename_i v hv
     rw[bw]at hv
     let ⟨a,q1,q2⟩:=oN g2 hv
     exact⟨a,q1,hK0 _ _ q2 Q⟩
    ·exact Q.elim
  ·exact Q.elim
 case iaA n esz x ix=>
  let ⟨u,M,Q⟩:=bS QM hc hs
  let ⟨v,h3,h4⟩:=bS QM hc Q
  split at h4
  ·simp only[vr]at M h3;let ⟨b,c,ez,g1,g2⟩:=M;rw[g2,h3]
   let ⟨⟨q1,q2⟩,q3⟩:=gf hc h4
   exact⟨q1,q2,hK0 _ _ (by simp only[vr];exact⟨b,c,ez,g1,rfl⟩) q3⟩
  ·simp only[vr]at M h3;let ⟨b,c,ez,g1,g2⟩:=M;rw[g2,h3]
   let ⟨⟨q1,q2⟩,q3⟩:=gf hc h4
   exact⟨q1,q2,hK0 _ _ (by simp only[vr];exact⟨b,c,ez,g1,by simp[js.add,H9]⟩) q3⟩
  ·simp only [vr]at h3
   split at h4
   ·rename_i ds hd
    let ⟨p,g1,g2⟩:=hkw M hd
    rw[g1,h3]
    let ⟨⟨q1,q2⟩,q3⟩:=gf hc h4
    exact⟨q1,q2,hK0 _ _ g2 q3⟩
   ·exact h4.elim
  ·exact h4.elim
 case iaS esz x ix=>
  let ⟨u,M,Q⟩:=bS QM hc hs
  let ⟨v,h3,h4⟩:=bS QM hc Q
  split at h4
  ·rename_i n f _ i
   simp only[vr]at M h3
   let ⟨p,c,ez,g1,g2,g3,g4,g5⟩:=M
   rw[g1,h3]
   cases hn:Nat.beq (cj (f i.toNat)) esz with
   |false=>rw[hn]at h4;exact h4.elim
   |true=>
     rw[hn]at h4
     have hl:=Ap hn
     rw[ca]at hl
     let ⟨⟨q1,q2⟩,q3⟩:=gf hc h4
     let ⟨PX,az,k1,k2,k3⟩:=g5 i.toNat K
     subst k1
     have Xu:ez=esz:=by have:=KF k2;have:=b5 k3.1;omega
     subst Xu
     refine⟨q1,q2,PX,rfl,hK0 _ _ ?_ q3⟩
     simp only[vr]
     exact⟨_,az,rfl,jmp k2,by rw[hl];exact k2,k3⟩
  ·simp only[vr]at M h3;let ⟨b,c,ez,g1,g2⟩:=M;rw[g2,h3]
   let ⟨⟨q1,q2⟩,q3⟩:=gf hc h4
   exact⟨q1,q2,_,rfl,hK0 _ _ (by simp only[vr];exact⟨b,c,ez,g1,rfl⟩) q3⟩
  ·rename_i k n _ i
   rw[bw]at h4
   split at h4
   ·rename_i ez n' f ty hk
    cases hn:Nat.beq ez esz with
    |false=>rw[hn]at h4;exact h4.elim
    |true=>
      rw[hn]at h4
      have hl:=Ap hn
      subst hl
      let ⟨⟨q1,q2,q3⟩,q4⟩:=gf hc h4
      simp only[vr]at M h3
      rw[h3]
      rcases M with ⟨g1,g2,g3⟩|⟨b,c,e',g1,g2,_⟩
      ·omega
      ·rw [g2]
       refine⟨q1,q2,_,rfl,hK0 _ _ ?_ q4⟩
       simp only[vr]
       rcases hh.blk k _ hk with ⟨k1,_⟩|⟨b2,c2,az,k1,_⟩
       ·rw[g1]at k1;cases k1
       ·rw[g1]at k1
        obtain⟨rfl,rfl,rfl⟩:b=_/\c=_/\e'=_:=by simpa using k1
        exact⟨b,c,e',g1,by simp[js.add]⟩
   ·exact h4.elim
  ·rename_i k off n _ i
   rw[bw]at h4
   split at h4
   ·rename_i ez n' f ty hk
    cases hn:Nat.beq ez esz with
    |false=>rw[hn]at h4;exact h4.elim
    |true=>
      rw[hn]at h4
      have hl:=Ap hn
      subst hl
      let ⟨⟨q1,q2,q3⟩,q4⟩:=gf hc h4
      simp only[vr]at M h3
      rw[h3]
      rcases M with ⟨g1,g2,g3⟩|⟨b,c,e',o,g1,g2,_,g4⟩
      ·omega
      ·rw [g2,g4 K]
       refine⟨q1,q2,_,rfl,hK0 _ _ ?_ q4⟩
       simp only[vr]
       rcases hh.blk k _ hk with ⟨k1,_⟩|⟨b2,c2,az,k1,_⟩
       ·rw[g1]at k1;cases k1
       ·rw[g1]at k1
        obtain⟨rfl,rfl,rfl⟩:b=_/\c=_/\e'=_:=by simpa using k1
        exact⟨b,c,e',g1,by simp[js.add,EP]⟩
   ·exact h4.elim
  ·let ⟨⟨q1,q2⟩,_⟩:=gf hc h4
   omega
  ·exact h4.elim
 case ixA n esz sz x ix=>
  let ⟨u,M,Q⟩:=bS QM hc hs
  let ⟨v,h3,h4⟩:=bS QM hc Q
  split at h4
  ·simp only [vr]at M h3;let ⟨az,g1,g2⟩:=M;rw[g1,h3]
   split at h4
   ·rename_i sz
    split at h4
    ·rename_i ds hd
     let ⟨⟨q1,q2⟩,q3⟩:=gf hc h4
     obtain⟨_,rfl⟩:=tS hd
     exact⟨q1,q2,hK0 _ _ (by simp only[vr];exact⟨_,rfl,jl sz (g8 _ g2)⟩) q3⟩
    ·exact h4.elim
   ·split at h4
    ·rename_i w hw
     rw[bw]at hw
     let ⟨⟨q1,q2⟩,q3⟩:=gf hc h4
     let ⟨a,k1,k2⟩:=oN g2 hw
     exact⟨q1,q2,a,k1,hK0 _ _ k2 q3⟩
    ·exact h4.elim
  ·exact h4.elim
 case ixS x ix=>
  let ⟨u,M,Q⟩:=bS QM hc hs
  let ⟨v,h3,h4⟩:=bS QM hc Q
  split at h4
  ·simp only[vr]at M h3;rw[M,h3]
   let ⟨⟨q1,q2⟩,q3⟩:=gf hc h4
   exact⟨q1,q2,hK0 _ _ (by simp only[vr]) q3⟩
  ·exact h4.elim
 case len x=>
  let ⟨u,M,Q⟩:=bS QM hc hs
  split at Q
  ·simp only[vr]at M;let ⟨p,c,ez,g1,_,g3,_⟩:=M;rw[g1];exact hK0 _ _ (by simp only[vr]) (Q λ_=>g3)
  ·simp only[vr]at M;let ⟨p,c,ez,g1,g2⟩:=M;rw[g2];exact hK0 _ _ (by simp only[vr]) Q
  ·simp only[vr]at M
   rcases M with ⟨g1,g2,g3⟩|⟨b,c,e',g1,g2,_⟩
   ·rw[g3];subst g2;exact hK0 _ _ (by simp only[vr]) Q
   ·rw[g2];exact hK0 _ _ (by simp only[vr]) Q
  ·simp only[vr]at M;rw[M];exact hK0 _ _ (by simp only[vr];rfl) Q
  ·simp only[vr]at M
   rcases M with ⟨g1,g2,g3,g4⟩|⟨b,c,e',o,g1,g2,_⟩
   ·rw[g4];subst g2;exact hK0 _ _ (by simp only[vr]) Q
   ·rw[g2];exact hK0 _ _ (by simp only[vr]) Q
  ·exact Q.elim
 case lenT x=>
  let ⟨u,M,Q⟩:=bS QM hc hs
  split at Q
  ·simp only[vr]at M;rw[M];exact hK0 _ _ (by simp only[vr]) Q
  ·exact Q.elim
 case lenA n=>exact hK0 _ _ (by simp only[vr]) hs
 case mm b x xs=>
  let ⟨u,M,Q⟩:=bS QM hc hs
  let ⟨us,h3,h4⟩:=mC QM hc Q
  split at h4
  ·rename_i v hv
   exact hX' hv M h3 λr hr=>hK0 _ _ hr h4
  ·exact h4.elim
 case ext x i=>
  let ⟨u,M,Q⟩:=bS QM hc hs
  split at Q
  ·simp only [vr]at M;let ⟨az,g1,g2⟩:=M;rw[g1]
   split at Q
   ·rename_i v hv
    rw[bw]at hv
    let ⟨a,q1,q2⟩:=oN g2 hv
    exact⟨a,q1,hK0 _ _ q2 Q⟩
   ·exact Q.elim
  ·exact Q.elim
 case slS esz x lo hi mx=>
  let ⟨u,M,Q⟩:=bS QM hc hs
  let ⟨lo',l1,h3⟩:=Hs QM hc Q
  let ⟨RI,l2,h4⟩:=Hs QM hc h3
  let ⟨mx',l3,h5⟩:=Hs QM hc h4
  split at h5
  ·rename_i n f
   split at h5
   ·simp only [HZ]at l3
    rw[l3]
    simp only[vr]at M
    let ⟨p,c,ez,g1,g2,g3,g4,g5⟩:=M
    rw[g1]
    cases hz:Nat.beq (cj (f 0)) esz with
    |false=>rw[hz]at h5;exact h5.elim
    |true=>
      rw[hz]at h5
      simp only[cond_true]at h5
      have hz:=Ap hz
      rw[ca]at hz
      dsimp only
      rw[kh]
      refine u4 (x:=RI) (y:=n) g2 (eR hc l2 h5 λb Rq RP h6=>?_)
      have W3:b<=n:=by
       by_cases e1:RI=none
       ·have:=Rq e1;omega
       ·exact RP e1
      refine eR hc l1 h6 λa Xp WO h7=>hK0 _ _ ?_ h7
      have SI:a<=b:=by
       by_cases e1:lo'=none
       ·have:=Xp e1;omega
       ·exact WO e1
      simp only[vr]
      refine⟨_,c-a,esz,rfl,K,K,?_,λi hi=>?_⟩
      ·split
       ·exact g4
       ·cases p with
        |none=>trivial
        |some PX=>cases PX with
          |l k o=>
            let ⟨cs,ty,q1,q2⟩:=g4
            refine⟨cs,ty,q1,?_⟩
            by_cases ha0:a=0
            ·subst ha0;simpa using q2
            ·let ⟨q0,as0,j1,j2,j3⟩:=g5 0 K
             have Xu:ez=esz:=by have:=KF j2;have:=b5 j3.1;omega
             let ⟨q3,as3,m1,m2,_⟩:=g5 (a-1) K
             cases m1
             simp only[js.add,lds,q1]at m2
             split at m2
             ·rename_i Qm
              have h3:a*ez=(a-1)*ez+ez:=by rw[← DO];congr 1;omega
              show o+a*esz<=cs.length
              rw[← Xu];omega
             ·cases m2
          |g ad=>trivial
      ·let ⟨PX,az,k1,k2,k3⟩:=g5 (a+i) K
       let ⟨q0,as0,j1,j2,j3⟩:=g5 0 K
       have Xu:ez=esz:=by have:=KF j2;have:=b5 j3.1;omega
       subst Xu
       refine⟨PX.add (a*ez),az,?_,?_,k3⟩
       ·rw[AU K,k1];rfl
       ·rw[hnl,← EP];exact k2
   ·exact h5.elim
  ·rename_i k n
   split at h5
   ·simp only [HZ]at l1 l3
    rw[l1,l3]
    simp only[vr]at M
    rcases M with ⟨g1,g2,g3⟩|⟨b,c,e',g1,g2,g3⟩
    ·rw [g3]
     subst g2
     dsimp only
     rw[kh]
     refine eR hc l2 h5 λb Rq RP h6=>?_
     have hb:b=0:=by
      by_cases e1:RI=none
      ·exact Rq e1
      ·have:=RP e1;omega
     subst hb
     rw[kh]
     exact hK0 _ _ (Bp g1) h6
    ·rw [g2]
     dsimp only
     rw[kh]
     refine u4 (x:=RI) (y:=n) g3 (eR hc l2 h5 λb' Rq RP h6=>?_)
     have W3:b'<=n:=by
      by_cases e1:RI=none
      ·have:=Rq e1;omega
      ·exact RP e1
     rw[kh]
     refine hK0 _ _ ?_ h6
     simp only[vr]
     refine .inr ⟨b,c,e',g1,?_,K⟩
     simp[js.add]
   ·rename_i lo2
    rw[bw]at h5
    split at h5
    ·rename_i e2 R N Ai hk
     cases hn:Nat.beq e2 esz with
     |false=>rw[hn]at h5;exact h5.elim
     |true=>
       rw[hn]at h5
       simp only[cond_true]at h5
       have:=Ap hn
       subst this
       simp only[HZ]at l3
       rw[l3]
       simp only[vr]at M
       rcases M with ⟨g1,g2,g3⟩|⟨b,c,e',g1,g2,g3⟩
       ·rw [g3]
        subst g2
        dsimp only
        rw[kh]
        refine eR hc l2 h5 λb Rq RP h6=>?_
        have hb:b=0:=by
         by_cases e1:RI=none
         ·exact Rq e1
         ·have:=RP e1;omega
        subst hb
        refine eR hc l1 h6 λa Xp WO h7=>hK0 _ _ ?_ h7
        have ha:a=0:=by have:=WO au;omega
        subst ha
        simp only[vr]
        exact .inl ⟨g1,trivial,trivial,au⟩
       ·rw [g2]
        dsimp only
        rw[kh]
        refine u4 (x:=RI) (y:=n) g3 (eR hc l2 h5 λb' Rq RP h6=>?_)
        have W3:b'<=n:=by
         by_cases e1:RI=none
         ·have:=Rq e1;omega
         ·exact RP e1
        refine eR hc l1 h6 λa Xp WO h7=>hK0 _ _ ?_ h7
        have SI:a<=b':=WO au
        have he:e'=e2:=by
         rcases hh.blk k _ hk with ⟨k1,_⟩|⟨b2,c2,az,k1,_⟩
         ·rw[g1]at k1;cases k1
         ·rw[g1]at k1;simp at k1;exact k1.2.2
        subst he
        simp only[vr]
        by_cases hm:c=a
        ·refine .inr ⟨b,c,e',0,g1,by rw[Ad hm],⟨K,Bc _⟩,λh0=>by omega⟩
        ·refine .inr ⟨b,c,e',a*e',g1,by rw[AU hm];simp[js.add],⟨K,DY _ K⟩,λ_=>rfl⟩
    ·exact h5.elim
   ·exact h5.elim
  ·rename_i k o n c
   simp only[vr]at M
   let ⟨b,c',e',g1,g2⟩:=M
   rw[g2]
   refine eR hc l3 h5 λm _ _ h6=>eR hc l2 h6 λb' _ _ h7=>eR hc l1 h7 λa _ _ h8=>hK0 _ _ ?_ h8
   simp only[vr]
   refine⟨b,c',e',g1,?_⟩
   unfold W9
   by_cases hm:m=a
   ·subst hm;simp
   ·rw [AU hm]
    have:Nat.beq m a=false:=by
     cases hb:Nat.beq m a with
     |false=>rfl
     |true=>exact(hm (Ap hb)).elim
    rw[this];simp[js.add]
  ·split at h5
   ·simp only [HZ]at l3
    rw[l3]
    simp only[vr]at M
    rw[M]
    dsimp only
    rw[kh]
    refine eR hc l2 h5 λb Rq RP h6=>?_
    have hb:b=0:=by
     by_cases e1:RI=none
     ·exact Rq e1
     ·have:=RP e1;omega
    subst hb
    refine eR hc l1 h6 λa Xp WO h7=>?_
    have ha:a=0:=by
     by_cases e1:lo'=none
     ·exact Xp e1
     ·have:=WO e1;omega
    subst ha
    exact hK0 _ _ (by simp only[vr];rfl) h7
   ·exact h5.elim
  ·exact h5.elim
 case slA n esz x lo hi mx=>
  let ⟨u,M,Q⟩:=bS QM hc hs
  let ⟨lo',l1,h3⟩:=Hs QM hc Q
  let ⟨RI,l2,h4⟩:=Hs QM hc h3
  let ⟨mx',l3,h5⟩:=Hs QM hc h4
  split at h5
  ·rename_i k o
   simp only[vr]at M
   let ⟨b,c',e',g1,g2⟩:=M
   rw[g2]
   refine eR hc l3 h5 λm _ _ h6=>eR hc l2 h6 λb' _ _ h7=>eR hc l1 h7 λa _ _ h8=>hK0 _ _ ?_ h8
   simp only[vr]
   refine⟨b,c',e',g1,?_⟩
   unfold W9
   by_cases hm:m=a
   ·subst hm;simp
   ·rw [AU hm]
    have:Nat.beq m a=false:=by
     cases hb:Nat.beq m a with
     |false=>rfl
     |true=>exact(hm (Ap hb)).elim
    rw[this];simp[js.add]
  ·exact h5.elim
 case slT x lo hi=>
  let ⟨u,M,Q⟩:=bS QM hc hs
  let ⟨lo',l1,h3⟩:=Hs QM hc Q
  let ⟨RI,l2,h4⟩:=Hs QM hc h3
  split at h4
  ·simp only[vr]at M
   rw[M]
   exact eR hc l2 h4 λb' _ _ h7=>eR hc l1 h7 λa _ _ h8=>hK0 _ _ (by simp only[vr]) h8
  ·exact h4.elim
 case app ty esz bytes z s x=>
  let ⟨u,M,Q,Y6⟩:=ab4 hc (QM.arg s) hs
  let ⟨v,h3,h4⟩:=bS QM hc Q
  cases hz:Nat.beq (cj z) esz with
  |false=>rw[hz]at h4;exact h4.elim
  |true=>
    rw[hz]at h4
    have hz:=Ap hz
    rw[ca]at hz
    refine im0 hh hp M h3 hz h4 λv h' ν' a lh' S4 g1 g2 g3 g4=>hK v h' ν' a lh' (λhm=>?_) (λe=>by cases e) g1 g2 g3 g4
    let ⟨l,q1,q2⟩:=TU hm
    simp only[Jv]at q1
    split at q1
    ·rename_i l0 p Zm
     cases q1
     have:=Y6 _ _ Zm
     subst this
     have Uk:plA≠none:=by
      rcases hp with ⟨g,_⟩|⟨_,_,g⟩
      ·cases g
      ·rw[g];simp
     exact S4 Uk wn λl hn k hk=>q2 k (by rw[Zm]at hn;cases hn;exact Do _ hk)
    ·cases q1
 case mks ty n cs=>
  refine hplace (o:=.cells (cs.map I0) ty) (c:=0) (ez:=0) (F:=λb=>.slice (some (.l b 0)) n n) (λhm=>?_) rfl au (λp b lh' hb SU=>⟨b,0,0,cs,gA _ _ _,hb,qC cs⟩) hs (λp b h' lh' SU hr Ra=>⟨_,?_,Ra⟩)
  ·let ⟨l,g,_⟩:=TU hm;exact hplN g g
  ·simp only[vr];exact⟨b,0,0,gA _ _ _,rfl⟩
 case call f xs=>
  let ⟨us,M,Q⟩:=mC QM hc hs
  exact RB f us h PR Pg ν nV nS _ lh KA M hh Q λv h' ν' a lh' hm=>hK v h' ν' a lh' (λh=>by let ⟨e1,e2,e3⟩:=hm h;subst e1 e2 e3;exact zZ.refl _ _ _ _ _ _) (λe=>by cases e)
 case isn neg x=>
  let ⟨u,M,Q⟩:=bS QM hc hs
  split at Q
  ·simp only[vr]at M;rw[M];exact hK0 _ _ (by simp only[vr];cases neg<;>rfl) Q
  ·simp only[vr]at M;let ⟨b,c,ez,g1,g2⟩:=M;rw[g2];exact hK0 _ _ (by simp only[vr];cases neg<;>rfl) Q
  ·simp only [vr]at M
   let ⟨p,c,ez,g1,g2,g3,g4,g5⟩:=M
   rw[g1]
   simp only[bU]at Q
   cases p with
   |none=>exact hK0 _ _ (by simp only[vr];cases neg<;>rfl) (Q.1 (by
      rename_i n f
      cases n with
      |zero=>rfl
      |succ n=>let ⟨PX,az,k1,_⟩:=g5 0 K;cases k1))
   |some p=>exact hK0 _ _ (by simp only[vr];cases neg<;>rfl) Q.2
  ·simp only[vr]at M
   simp only[bU]at Q
   rcases M with ⟨g1,g2,g3⟩|⟨b,c,e',g1,g2,_⟩
   ·rw[g3];exact hK0 _ _ (by simp only[vr];cases neg<;>rfl) (Q.1 g2)
   ·rw[g2];exact hK0 _ _ (by simp only[vr];cases neg<;>rfl) Q.2
  ·exact Q.elim
 case clr esz z x=>
  let ⟨u,M,Q⟩:=bS QM hc hs
  split at Q
  ·rename_i k off n
   rw[bw]at Q
   split at Q
   ·rename_i e' n' f ty hk
    cases hb:(Nat.beq e' esz&&nX e' (z.map I0)) with
    |false=>rw[hb]at Q;exact Q.elim
    |true=>
      rw[hb]at Q
      simp only[cond_true,bU,DJ]at Q
      simp only[Ae]at hb
      have:=Ap hb.1
      subst this
      let ⟨⟨TO,Qm⟩,h3⟩:=Q
      simp only[vr]at M
      rcases M with ⟨_,g2,_⟩|⟨b,c,e2,o,g1,g2,g3,g4⟩
      ·omega
      ·rw [g2,g4 TO]
       have he:e2=e':=by
        rcases hh.blk k _ hk with ⟨k1,_⟩|⟨b2,c2,az,k1,_⟩
        ·rw[g1]at k1;cases k1
        ·rw[g1]at k1;simp at k1;exact k1.2.2
       subst he
       let ⟨cs,q1,q2,q3⟩:=afx (z:=z.map I0) (za:=z) hh hk g1 (qC z) hb.2 n Qm
       rw[jj]at h3
       refine⟨cs,ty,q1,K,q2,hK _ _ ν _ _ (λhm=>?_) (λe=>by cases e) (Nu.sub_refl ν) q3 (by simp only[vr,bK];exact⟨[],rfl,rfl⟩) h3⟩
       let ⟨l,q4,_⟩:=TU hm
       cases q4
   ·exact Q.elim
  ·exact Q.elim
 case callv x xs=>
  let ⟨u,M,Q⟩:=bS QM hc hs
  let ⟨us,h3,h4⟩:=mC QM hc Q
  split at h4
  ·simp only[vr]at M;let ⟨az,bs,g1,g2,g3⟩:=M;rw[g1]
   rw[mJ,mJ]at h4
   exact RB _ _ h PR Pg ν nV nS _ lh KA (lY (lY g2 h3) g3) hh h4 λv h' ν' a lh' hm=>hK v h' ν' a lh' (λh=>by let ⟨e1,e2,e3⟩:=hm h;subst e1 e2 e3;exact zZ.refl _ _ _ _ _ _) (λe=>by cases e)
  ·exact h4.elim
end
end Go.Dx
