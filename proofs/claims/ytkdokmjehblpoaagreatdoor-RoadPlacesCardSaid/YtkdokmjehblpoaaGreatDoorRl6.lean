/- Part 6 of a proof. No conditions. -/
import Derived.Test.YtkdokmjehblpoaaGreatDoorRl5
import Derived.Maps.AppendAt
import Derived.Deep.WholeRow
import Derived.Maps.RangeRun
import Derived.Shelf.SlLaysF0
import Derived.Shelf.SlicesG.Cmp
import Derived.Shelf.SlSortCmp.WholeK
import Derived.Ground.SlsfProg
import Derived.Ground.SlgcProg
import Derived.WalkKit
import Derived.LoopN
import Derived.Deep.RegionHeld3
set_option maxRecDepth 100000
set_option linter.unusedVariables false
set_option linter.unusedSimpArgs false
namespace Go.Dx
open Go.Sx Go.Proofs
def Frn (Fr:Nat->Prop) (B:bm) (m:ao) (lh:List ac) (w:World):Prop:=∀ q,Fr q->q < w.heap.size/\B.w0.heap.size<=q/\B.wf.heap.size<=q/\∀ k cs ty,lh[k]? = some (.cells cs ty)->m k ≠ some q
def F0 (Pn:List (Nat × Nat × Nat)) (ν:Nu) (m:ao):Prop:=∀ x ∈ Pn,∃ b,ν x.1=some (some (b,x.2.2,1))/\m b=some x.2.1
theorem F0.mono {Pn:List (Nat × Nat × Nat)} {ν ν':Nu} {m m':ao} (h:F0 Pn ν m) (hn:ν.sub ν') (hm:m.le m'):F0 Pn ν' m':=fun x hx=>let ⟨b,h1,h2⟩:=h x hx; ⟨b,hn.1 _ _ h1,hm _ _ h2⟩
def VX (B:bm) (N:Nat) (e:Env) (h:List O) (G:List (Nat × Value)) (Fr:Nat->Prop) (Pn:List (Nat × Nat × Nat)) (a:Act) (w:World):Prop :=
 ∃ m sl lh ν nV nS,af m sl a.tmps.toList/\a.defers=[]/\aw B m lh w/\slR B.w0 ν N e sl/\HR B.w0 ν nV nS h lh/\Raw G sl/\Frn Fr B m lh w/\F0 Pn ν m
structure Kp (Fr:Nat->Prop) (w w':World):Prop where
 oth:KeepsOthers w w'
 frn:∀ q,Fr q->w'.heap[q]? = w.heap[q]?
theorem Kp.refl (Fr:Nat->Prop) (w:World):Kp Fr w w:=⟨⟨Nat.le_refl _,fun _ _ h _=>h⟩,fun _ _=>rfl⟩
section
variable {B:bm} {N:Nat} {e:Env} {h:List O} {G:List (Nat × Value)} {Fr:Nat->Prop} {Pn:List (Nat × Nat × Nat)} {a:Act} {w:World}
theorem VX.frs (hs:VX B N e h G Fr Pn a w) {q:Nat} (hq:Fr q):q < w.heap.size/\B.w0.heap.size<=q/\B.wf.heap.size<=q :=
 let ⟨m,sl,lh,ν,nV,nS,h1,h2,h3,h4,h5,h6,h7,h8⟩:=hs; ⟨(h7 q hq).1,(h7 q hq).2.1,(h7 q hq).2.2.1⟩
theorem VX.size (hs:VX B N e h G Fr Pn a w):B.w0.heap.size<=w.heap.size/\B.wf.heap.size<=w.heap.size :=
 let ⟨m,sl,lh,ν,nV,nS,h1,h2,h3,h4,h5,h6,h7,h8⟩:=hs; ⟨h3.size,h3.fsize⟩
theorem VX.less (hs:VX B N e h G Fr Pn a w) {Fr':Nat->Prop} (hF:∀ q,Fr' q->Fr q):VX B N e h G Fr' Pn a w :=
 let ⟨m,sl,lh,ν,nV,nS,h1,h2,h3,h4,h5,h6,h7,h8⟩:=hs; ⟨m,sl,lh,ν,nV,nS,h1,h2,h3,h4,h5,h6,fun q hq=>h7 q (hF q hq),h8⟩
theorem VX.grow (hs:VX B N e h G Fr Pn a w) {w':World} {row:Option Nat} (hg:w.grownBy w' row) (hr:∀ q,row=some q->Fr q) {Fr':Nat->Prop} (hF:∀ q,Fr' q->Fr q ∨ (w.heap.size<=q/\q < w'.heap.size)):VX B N e h G Fr' Pn a w':=by
 obtain ⟨m,sl,lh,ν,nV,nS,h1,h2,h3,h4,h5,h6,h7,h8⟩:=hs
 have own:∀ k cs ty b,lh[k]? = some (.cells cs ty)->m k=some b->w'.heap[b]? = w.heap[b]? := fun k cs ty b hk hb=>hg.block b (h3.rng k b hb) fun e=>(h7 b (hr b e.symm)).2.2.2 k cs ty hk hb
 refine ⟨m,sl,lh,ν,nV,nS,h1,h2,⟨hg.os.trans h3.os,hg.tape.trans h3.tape,hg.output.trans h3.output,Nat.le_trans h3.size hg.size,fun b hb=>?_,Nat.le_trans h3.fsize hg.size,fun b hb ho=>?_,fun k cs ty hk=>?_,h3.inj,h3.dom,h3.dead,fun k b hk=>Nat.lt_of_lt_of_le (h3.rng k b hk) hg.size⟩,h4,h5,h6,fun q hq=>?_,h8⟩
 ·rw [hg.block b (Nat.lt_of_lt_of_le hb h3.size) fun e=>by have:=(h7 b (hr b e.symm)).2.1; omega]; exact h3.old b hb
 ·rw [hg.block b (Nat.lt_of_lt_of_le hb h3.fsize) fun e=>by have:=(h7 b (hr b e.symm)).2.2.1; omega]; exact h3.kept b hb ho
 ·obtain ⟨b,vs,g1,g2,g3,g4⟩:=h3.loc k cs ty hk
  exact ⟨b,vs,g1,g2,(own k cs ty b hk g1).trans g3,g4⟩
 ·rcases hF q hq with hq | ⟨q1,q2⟩
  ·exact ⟨Nat.lt_of_lt_of_le (h7 q hq).1 hg.size,(h7 q hq).2⟩
  ·exact ⟨q2,Nat.le_trans h3.size q1,Nat.le_trans h3.fsize q1,fun k cs ty hk hm=>by have:=h3.rng k q hm; omega⟩
theorem VX.put (hs:VX B N e h G Fr Pn a w) {d:Nat} (hd:d < N) (hg:wH G (some d)) {x:V} {v:Value} (hx:∀ ν:Nu,∀ m:ao,∃ b,vr B.w0 ν.z ν x b/\vrel m b v):VX B N ((d,x)::e) h G Fr Pn (a.put (some d) v) w:=by
 obtain ⟨m,sl,lh,ν,nV,nS,h1,h2,h3,h4,h5,h6,h7,h8⟩:=hs
 obtain ⟨b,g1,g2⟩:=hx ν m
 refine ⟨m,cA sl (some d) b,lh,ν,nV,nS,?_,h2,h3,h4.put (some d) (fun _ e=>by cases e; exact hd) g1,h5,h6.put hg b,h7,h8⟩
 rw [lK]
 exact ej d h1 g2
theorem VX.raw (hs:VX B N e h G Fr Pn a w) {d:Nat} (hd:d < N) (hg:wH G (some d)) (v:Value):VX B N ((d,.any)::e) h ((d,v)::G) Fr Pn (a.put (some d) v) w:=by
 obtain ⟨m,sl,lh,ν,nV,nS,h1,h2,h3,h4,h5,h6,h7,h8⟩:=hs
 refine ⟨m,cA sl (some d) (.raw v),lh,ν,nV,nS,?_,h2,h3,h4.put (some d) (fun _ e=>by cases e; exact hd) (by simp only [vr]),h5,fun p hp=>?_,h7,h8⟩
 ·rw [lK]
  exact ej d h1 (by simp only [vrel])
 ·rcases List.mem_cons.1 hp with rfl | hp
  ·simp only [cA,List.getD,List.getElem?_set_self (by rw [h4.len]; exact hd),Option.getD_some]
  ·exact h6.put hg (.raw v) p hp
theorem VX.drop (hs:VX B N e h G Fr Pn a w) {G':List (Nat × Value)} (hG:∀ p ∈ G',p ∈ G):VX B N e h G' Fr Pn a w :=
 let ⟨m,sl,lh,ν,nV,nS,h1,h2,h3,h4,h5,h6,h7,h8⟩:=hs; ⟨m,sl,lh,ν,nV,nS,h1,h2,h3,h4,h5,fun p hp=>h6 p (hG p hp),h7,h8⟩
theorem VX.at_raw (hs:VX B N e h G Fr Pn a w) {d:Nat} {v:Value} (hp:(d,v) ∈ G):a.tmps[d]? = some v:=by
 obtain ⟨m,sl,lh,ν,nV,nS,h1,h2,h3,h4,h5,h6,h7,h8⟩:=hs
 have hr:=h6 _ hp
 cases hg:sl[d]? with
 | none=>simp [List.getD,hg] at hr
 | some y =>
   obtain ⟨u,hu,hur⟩:=cU d h1 hg
   simp [List.getD,hg] at hr
   subst hr
   simp only [vrel] at hur
   subst hur
   simpa using hu
theorem VX.at_val (hs:VX B N e h G Fr Pn a w) {d:Nat} {x:V} (hx:cH e d=x) (hd:d < N):∃ u b m ν,a.tmps[d]? = some u/\vr B.w0 (Nu.z ν) ν x b/\vrel m b u:=by
 obtain ⟨m,sl,lh,ν,nV,nS,h1,h2,h3,h4,h5,h6,h7,h8⟩:=hs
 have hr:=h4.at' d
 rw [hx] at hr
 have hl:d < sl.length:=by rw [h4.len]; exact hd
 have hg:sl[d]? = some sl[d]:=List.getElem?_eq_getElem hl
 obtain ⟨u,hu,hur⟩:=cU d h1 hg
 rw [show sl.getD d .any=sl[d] by simp [List.getD,hg]] at hr
 exact ⟨u,_,m,ν,by simpa using hu,hr,hur⟩
theorem VX.at_bool (hs:VX B N e h G Fr Pn a w) {d:Nat} {b:Bool} (hx:cH e d=.bool b ∨ cH e d=.kb b) (hd:d < N):a.tmps[d]? = some (.bool b):=by
 rcases hx with hx | hx
 all_goals
  obtain ⟨u,c,m,ν,h1,h2,h3⟩:=hs.at_val hx hd
  simp only [vr] at h2
  subst h2
  simp only [vrel] at h3
  rw [h1,h3]
theorem VX.at_int (hs:VX B N e h G Fr Pn a w) {d:Nat} {k:IntKind} {n:Int} (hx:cH e d=.int k n) (hd:d < N):a.tmps[d]? = some (.int k n):=by
 obtain ⟨u,c,m,ν,h1,h2,h3⟩:=hs.at_val hx hd
 simp only [vr] at h2
 subst h2
 simp only [vrel] at h3
 rw [h1,h3]
theorem VX.at_key (hs:VX B N e h G Fr Pn a w) {d:Nat} {x y:Int} (hx:cH e d=.agg [.int .i64 x,.int .i64 y]) (hd:d < N):a.tmps[d]? = some (kp x y):=by
 obtain ⟨u,c,m,ν,h1,h2,h3⟩:=hs.at_val hx hd
 simp only [vr,vrs] at h2
 obtain ⟨cs,rfl,c1,cs1,rfl,rfl,c2,cs2,rfl,rfl,rfl⟩:=h2
 simp only [vrel,af] at h3
 obtain ⟨us,rfl,u1,us1,e1,rfl,u2,us2,rfl,rfl,rfl⟩:=h3
 rw [h1]
 unfold kp
 congr 2
 exact Array.toList_inj.1 e1
theorem VX.env (hs:VX B N e h G Fr Pn a w) {e':Env} (he:∀ d,cH e' d=.any ∨ cH e' d=cH e d):VX B N e' h G Fr Pn a w :=
 let ⟨m,sl,lh,ν,nV,nS,h1,h2,h3,h4,h5,h6,h7,h8⟩:=hs
 ⟨m,sl,lh,ν,nV,nS,h1,h2,h3,⟨h4.len,fun i=>by
   rcases he i with e | e
   ·rw [e]; simp only [vr]
   ·rw [e]; exact h4.at' i⟩,h5,h6,h7,h8⟩
theorem VX.sub (hs:VX B N e h G Fr Pn a w) {nb:Nat} {e1:Env} {h1:List O} (hsub:∀ w0,eq w0 nb e h e1 h1):VX B N e1 h1 G Fr [] a w:=by
 obtain ⟨m,sl,lh,ν,nV,nS,q1,q2,q3,q4,q5,q6,q7,q8⟩:=hs
 obtain ⟨ν',nV',nS',_,g1,g2⟩:=hsub B.w0 N ν nV nS sl lh q4 q5
 exact ⟨m,sl,lh,ν',nV',nS',q1,q2,q3,g1,g2,q6,q7,fun x hx=>by cases hx⟩
theorem VX.putObj (hs:VX B N e h G Fr Pn a w) {r:Nat} {o:Obj} (hr:w.heap[r]? = some o) (ho:o.isCells=false) (hf:B.wf.heap.size<=r) (h0:B.w0.heap.size<=r) (hq:∀ q,Fr q->q ≠ r) (o':Obj):VX B N e h G Fr Pn a (w.putObj r o'):=by
 obtain ⟨m,sl,lh,ν,nV,nS,h1,h2,h3,h4,h5,h6,h7,h8⟩:=hs
 exact ⟨m,sl,lh,ν,nV,nS,h1,h2,h3.putObj hr ho hf h0 o',h4,h5,h6,fun q hq'=>⟨by simpa [World.putObj] using (h7 q hq').1,(h7 q hq').2⟩,h8⟩
section
variable {ct:aX} (hT:aW Tryz.prog eqs its ct) {F:Fence} {n:Nat} {ops:Array Oper} {Q:Exit->Act->World->Prop} {rest:List Nat}
include hT
theorem Eg (hF:Go.Sx.Open F) {l:List Oper} {xs:List SOp} {k:Nat} {Qv:Env->List O->Prop} (hl:∀ j,j < l.length->l[j]? = ops[k+j]?) (hc:bg Tryz.prog eqs ops l=some xs) (hd:bQ N xs=true) (hk:okG G xs=true) (hs:VX B N e h G Fr Pn a w)
 (hv:sat (bK B.w0 (SV ct)) (dR (jb ct LV) xs e h fun e h=>.ret (e,h)) (fun r=>Qv r.1 r.2)) (hQ:∀ a' w' e1 h1,Qv e1 h1->VX B N e1 h1 (gU G xs) Fr Pn a' w'->Kp Fr w w'->wpOpsIn F n Tryz.prog ops Q rest a' w'):wpOpsIn F n Tryz.prog ops Q (List.range' k l.length++rest) a w:=by
 obtain ⟨m,sl,lh,ν,nV,nS,q1,q2,q3,q4,q5,q6,q7,q8⟩:=hs
 have hS:=hT.ok hE hI LV
 have hvc:=eV (S:=SV ct LV) (nV:=nV) (nS:=nS) (kq B.w0 ct hT.dst LV) xs e h ν sl lh _ (fun sl' lh'=>∃ e1 h1 ν' nV nS,slR B.w0 ν' N e1 sl'/\HR B.w0 ν' nV nS h1 lh'/\Qv e1 h1/\ν.sub ν') hd q4 q5 hv (fun e' h' ν' sl' lh' g0 g1 g2 g3=>⟨e',h',ν',_,_,g1,g2,g3,g0⟩)
 refine gJ (B:=B.at m lh w []) (S:=SV ct LV) hF (fun f=>(hS f).sound) hE rest l xs k sl lh m a w _ hl hc (ls hS xs G sl lh _ (by rw [q4.len]; exact rz hd) hk q6 hvc) ⟨q1,q2,q3.rebase []⟩ fun sl' lh' m' a' w' g1 g2 ⟨⟨e1,h1,ν',nV',nS',g3,g4,g40,g41⟩,g5⟩=>?_
 obtain ⟨g6,g7⟩:=q3.unbase g1.2.2
 refine hQ a' w' e1 h1 g40 ⟨m',sl',lh',ν',nV',nS',g1.1,g1.2.1,g6,g3,g4,g5,fun q hq=>?_,q8.mono g41 g2.1⟩ ⟨g7,fun q hq=>?_⟩
 ·obtain ⟨p1,p2,p3,p4⟩:=q7 q hq
  refine ⟨Nat.lt_of_lt_of_le p1 g1.2.2.fsize,p2,p3,fun k cs ty hk hm=>?_⟩
  obtain ⟨b,vs,r1,r2,r3,r4,r5⟩:=g1.2.2.loc k cs ty hk
  rw [r1] at hm; cases hm
  rcases r5 with r5 | ⟨k',cs',ty',r6,r7⟩
  ·have:w.heap.size<=q:=r5
   omega
  ·exact p4 k' cs' ty' r6 r7
 ·obtain ⟨p1,p2,p3,p4⟩:=q7 q hq
  exact g1.2.2.kept q p1 fun ⟨k',cs',ty',r6,r7⟩=>p4 k' cs' ty' r6 r7
theorem Ns (hF:Go.Sx.Open F) {ds:List DOp} {Qv:Env->List O->Prop} (hc:eD Tryz.prog eqs ops=some ds) (hd:pU N ds=true) (hk:okG G (ds.map (·.o))=true) (hs:VX B N e h G Fr Pn a w)
 (hv:sat (bK B.w0 (SV ct)) (nm (ju ct) ds e h fun e h=>.ret (e,h)) (fun r=>Qv r.1 r.2)) (hQ:∀ a' w' e1 h1,Qv e1 h1->VX B N e1 h1 (gU G (ds.map (·.o))) Fr Pn a' w'->Kp Fr w w'->Q .normal a' w'):Tryz.prog.follows .mixedOrders=true/\wpAnyIn F n Tryz.prog .any ops Q ops.size (Array.replicate ops.size false) a { w with drawn:=w.drawn+1 }:=by
 obtain ⟨m,sl,lh,ν,nV,nS,q1,q2,q3,q4,q5,q6,q7,q8⟩:=hs
 have hS:=hT.ok hE hI LV
 obtain ⟨hw,ht⟩:=nK (S:=SV ct LV) (ke B.w0 ct _ LV) (KA:=fun sl' lh'=>∃ e1 h1 ν' nV nS,slR B.w0 ν' N e1 sl'/\HR B.w0 ν' nV nS h1 lh'/\Qv e1 h1/\ν.sub ν') hd q4 q5 hv (fun e' h' ν' sl' lh' nV nS g0 g1 g2 g3=>⟨e',h',ν',_,_,g1,g2,g3,g0⟩)
 refine xX (B:=B.at m lh w []) (S:=SV ct LV) hF hS hE hc (sl:=sl) (lh:=lh) (m:=m) ⟨q1,q2,q3.rebase []⟩ ⟨hw,gI hS ds G 0 sl _ (by rw [q4.len]; exact wi hd) hk q6 ht⟩ fun sl' lh' m' a' w' g1 g2 ⟨⟨e1,h1,ν',nV',nS',g3,g4,g40,g41⟩,g5⟩=>?_
 obtain ⟨g6,g7⟩:=q3.unbase g1.2.2
 refine hQ a' w' e1 h1 g40 ⟨m',sl',lh',ν',nV',nS',g1.1,g1.2.1,g6,g3,g4,g5,fun q hq=>?_,q8.mono g41 g2.1⟩ ⟨g7,fun q hq=>?_⟩
 ·obtain ⟨p1,p2,p3,p4⟩:=q7 q hq
  refine ⟨Nat.lt_of_lt_of_le p1 g1.2.2.fsize,p2,p3,fun k cs ty hk hm=>?_⟩
  obtain ⟨b,vs,r1,r2,r3,r4,r5⟩:=g1.2.2.loc k cs ty hk
  rw [r1] at hm; cases hm
  rcases r5 with r5 | ⟨k',cs',ty',r6,r7⟩
  ·have:w.heap.size<=q:=r5
   omega
  ·exact p4 k' cs' ty' r6 r7
 ·obtain ⟨p1,p2,p3,p4⟩:=q7 q hq
  exact g1.2.2.kept q p1 fun ⟨k',cs',ty',r6,r7⟩=>p4 k' cs' ty' r6 r7
end
end
end Go.Dx
namespace Go.Jn
abbrev Pt:=Int × Int
abbrev J:=Pt × List Nat
def lt (a b:Pt):Bool:=decide (a.1 < b.1) || (a.1 == b.1 && decide (a.2 < b.2))
theorem lg {a b:Pt}:lt a b=true ↔ a.1 < b.1 ∨ (a.1=b.1/\a.2 < b.2):=by simp [lt]
theorem lt_irrefl (a:Pt):lt a a=false:=by simp [lt]
theorem lt_trans {a b c:Pt} (h:lt a b=true) (k:lt b c=true):lt a c=true:=by rw [lg] at *; omega
theorem CV {a b:Pt} (h:lt a b=true):lt b a=false:=by
 cases hb:lt b a with
 | false=>rfl
 | true=>have:=lt_trans h hb; rw [lt_irrefl] at this; cases this
theorem D2 {a b:Pt} (h:lt a b=false) (k:a ≠ b):lt b a=true:=by
 have h':¬ (a.1 < b.1 ∨ (a.1=b.1/\a.2 < b.2)):=fun e=>by rw [lg.2 e] at h; cases h
 rw [lg]
 have:¬ (a.1=b.1/\a.2=b.2):=fun e=>k (Prod.ext e.1 e.2)
 omega
theorem Bs {a b c:Pt} (h:lt b a=false) (k:lt c b=false):lt c a=false:=by
 have h':¬ (b.1 < a.1 ∨ (b.1=a.1/\b.2 < a.2)):=fun e=>by rw [lg.2 e] at h; cases h
 have k':¬ (c.1 < b.1 ∨ (c.1=b.1/\c.2 < b.2)):=fun e=>by rw [lg.2 e] at k; cases k
 cases hb:lt c a with
 | false=>rfl
 | true=>rw [lg] at hb; omega
def at' (P:List (List Pt)) (p:Pt):List Nat:=(List.range P.length).filter fun i=>decide (p ∈ P.getD i [])
abbrev Mp:=List (Pt × List Nat)
def bp:Mp->Pt->List Nat
 | [],_=>[]
 | e::M,p=>if e.1=p then e.2 else bp M p
def lc:Mp->Pt->List Nat->Mp
 | [],p,l=>[(p,l)]
 | e::M,p,l=>if e.1=p then (p,l)::M else e::lc M p l
def kO (i:Nat) (M:Mp) (p:Pt):Mp:=if bp M p=[] ∨ (bp M p).getLast? ≠ some i then lc M p (bp M p++[i]) else M
def jk (i:Nat) (M:Mp) (ps:List Pt):Mp:=ps.foldl (kO i) M
def fill:Nat->Mp->List (List Pt)->Mp
 | _,M,[]=>M
 | i,M,ps::r=>fill (i+1) (jk i M ps) r
def mapJ (P:List (List Pt)):Mp:=fill 0 [] P
theorem tf:∀ (Q:List (List Pt)) (k:Nat) (M:Mp) (ps:List Pt),fill k M (Q++[ps])=jk (k+Q.length) (fill k M Q) ps
 | [],k,M,ps=>rfl
 | q::Q,k,M,ps=>by
   simp only [List.cons_append,fill]
   rw [tf Q]
   simp only [List.length_cons]
   congr 1; omega
theorem rx {M:Mp} {p q:Pt} {l:List Nat}:bp (lc M p l) q=if p=q then l else bp M q:=by
 induction M with
 | nil=>simp only [lc,bp]
 | cons e M ih =>
   simp only [lc]
   by_cases h:e.1=p
   ·rw [if_pos h]
    simp only [bp]
    by_cases h2:p=q
    ·rw [if_pos h2,if_pos h2]
    ·rw [if_neg h2,if_neg h2,if_neg (fun e'=>h2 (h.symm.trans e'))]
   ·rw [if_neg h]
    simp only [bp,ih]
    by_cases h2:e.1=q
    ·rw [if_pos h2,if_pos h2,if_neg (fun e'=>h (h2.trans e'.symm))]
    ·rw [if_neg h2,if_neg h2]
theorem AF {M:Mp} {p:Pt} {l:List Nat} {q:Pt}:q ∈ (lc M p l).map (·.1) ↔ q=p ∨ q ∈ M.map (·.1):=by
 induction M with
 | nil=>simp [lc]
 | cons e M ih =>
   simp only [lc]
   by_cases h:e.1=p
   ·rw [if_pos h]; simp only [List.map_cons,List.mem_cons,h,or_self_left]
   ·rw [if_neg h]; simp only [List.map_cons,List.mem_cons,ih]
    constructor
    ·rintro (h1 | h1 | h1) <;> simp [h1]
    ·rintro (h1 | h1 | h1) <;> simp [h1]
theorem tx {M:Mp} {p:Pt} {l:List Nat} (h:(M.map (·.1)).Nodup):((lc M p l).map (·.1)).Nodup:=by
 induction M with
 | nil=>simp [lc]
 | cons e M ih =>
   simp only [lc]
   simp only [List.map_cons,List.nodup_cons] at h
   by_cases h1:e.1=p
   ·rw [if_pos h1]; simp only [List.map_cons,List.nodup_cons]; exact ⟨h1 ▸ h.1,h.2⟩
   ·rw [if_neg h1]
    simp only [List.map_cons,List.nodup_cons,AF]
    exact ⟨fun e'=>e'.elim h1 h.1,ih h.2⟩
theorem xk {M:Mp} (h:(M.map (·.1)).Nodup) {e:Pt × List Nat}:e ∈ M ↔ e.1 ∈ M.map (·.1)/\bp M e.1=e.2:=by
 induction M with
 | nil=>simp
 | cons x M ih =>
   simp only [List.map_cons,List.nodup_cons] at h
   simp only [List.mem_cons,List.map_cons,bp]
   by_cases hx:x.1=e.1
   ·rw [if_pos hx]
    constructor
    ·rintro (rfl | h1)
     ·exact ⟨.inl rfl,rfl⟩
     ·exact absurd (hx ▸ List.mem_map_of_mem h1) h.1
    ·rintro ⟨_,h2⟩; exact .inl (Prod.ext hx.symm h2.symm)
   ·rw [if_neg hx,ih h.2]
    constructor
    ·rintro (rfl | h1)
     ·exact (hx rfl).elim
     ·exact ⟨.inr h1.1,h1.2⟩
    ·rintro ⟨h1 | h1,h2⟩
     ·exact (hx h1.symm).elim
     ·exact .inr ⟨h1,h2⟩
structure MI (M:Mp) (D:Pt->List Nat):Prop where
 nd:(M.map (·.1)).Nodup
 get:∀ p,bp M p=D p
 key:∀ p,p ∈ M.map (·.1) ↔ D p ≠ []
theorem MI.step {M:Mp} {D:Pt->List Nat} (h:MI M D) (i:Nat) (p:Pt):MI (kO i M p) (fun q=>if p=q then (if D p=[] ∨ (D p).getLast? ≠ some i then D p++[i] else D p) else D q):=by
 unfold kO
 rw [h.get p]
 by_cases hc:D p=[] ∨ (D p).getLast? ≠ some i
 ·rw [if_pos hc]
  refine ⟨tx h.nd,fun q=>?_,fun q=>?_⟩
  ·rw [rx,h.get q]; simp only [if_pos hc]
  ·rw [AF,h.key q]
   by_cases e:p=q
   ·subst e; simp [if_pos hc]
   ·simp only [if_neg e]
    exact ⟨fun o=>o.elim (fun e'=>absurd e'.symm e) id,.inr⟩
 ·rw [if_neg hc]
  refine ⟨h.nd,fun q=>?_,fun q=>?_⟩
  ·rw [h.get q]
   by_cases e:p=q
   ·subst e; simp only [if_true,if_neg hc]
   ·simp only [if_neg e]
  ·rw [h.key q]
   by_cases e:p=q
   ·subst e; simp only [if_true,if_neg hc]
   ·simp only [if_neg e]
def DD (A:Pt->List Nat) (i:Nat) (ps:List Pt) (p:Pt):List Nat:=A p++if p ∈ ps then [i] else []
theorem MI.row {M:Mp} {A:Pt->List Nat} {i:Nat} (hA:∀ p,∀ k ∈ A p,k < i):∀ (ps qs:List Pt),MI M (DD A i qs)->MI (jk i M ps) (DD A i (qs++ps))
 | [],qs,h=>by simpa [jk] using h
 | p :: ps,qs,h=>by
   have hs:=h.step i p
   have e:(fun q=>if p=q then (if DD A i qs p=[] ∨ (DD A i qs p).getLast? ≠ some i then DD A i qs p++[i] else DD A i qs p) else DD A i qs q)=DD A i (qs++[p]):=by
    funext q
    by_cases hq:p=q
    ·subst hq
     simp only [if_true]
     unfold DD
     by_cases hm:p ∈ qs
     ·rw [if_pos hm,if_neg (by simp),if_pos (by simp)]
     ·have hc:A p=[] ∨ (A p).getLast? ≠ some i:=by
       by_cases hn:A p=[]
       ·exact .inl hn
       ·refine .inr fun e'=>?_
        have:=hA p i (List.mem_of_getLast? e')
        omega
      rw [if_neg hm,List.append_nil,if_pos hc,if_pos (by simp)]
    ·rw [if_neg hq]
     unfold DD
     congr 1
     simp [List.mem_append,Ne.symm hq]
   rw [e] at hs
   have:=MI.row hA ps (qs++[p]) hs
   rwa [List.append_assoc] at this
theorem Gq (Q:List (List Pt)) (ps:List Pt) (p:Pt):at' (Q++[ps]) p=DD (at' Q) Q.length ps p:=by
 unfold at' DD
 rw [List.length_append,List.length_singleton,List.range_succ,List.filter_append]
 congr 1
 ·apply List.filter_congr
  intro i hi
  have:=List.mem_range.1 hi
  rw [Bool.eq_iff_iff]
  simp only [List.getD,List.getElem?_append_left this]
  exact ⟨fun h=>decide_eq_true (of_decide_eq_true h),fun h=>decide_eq_true (of_decide_eq_true h)⟩
 ·by_cases h:p ∈ ps <;> simp [h]
theorem Hd {Q:List (List Pt)} {p:Pt}:∀ k ∈ at' Q p,k < Q.length:=fun k hk=>by
 simp only [at',List.mem_filter,List.mem_range] at hk; exact hk.1
theorem MI.nil:MI [] (at' []):=⟨by simp,fun p=>by simp [bp,at'],fun p=>by simp [at']⟩
theorem zi:∀ (r Q:List (List Pt)) (M:Mp),MI M (at' Q)->MI (fill Q.length M r) (at' (Q++r))
 | [],Q,M,h=>by simpa [fill] using h
 | ps::r,Q,M,h=>by
   simp only [fill]
   have h0:MI M (DD (at' Q) Q.length []):=by
    have e:DD (at' Q) Q.length []=at' Q:=by funext p; simp [DD]
    rw [e]; exact h
   have h1:=MI.row (fun p=>Hd) ps [] h0
   rw [List.nil_append] at h1
   have e:DD (at' Q) Q.length ps=at' (Q++[ps]):=by funext p; exact (Gq Q ps p).symm
   rw [e] at h1
   have:=zi r (Q++[ps]) _ h1
   rw [List.append_assoc,List.length_append] at this
   exact this
theorem l7 (P:List (List Pt)):MI (mapJ P) (at' P):=zi P [] [] MI.nil
theorem N9 {P:List (List Pt)} {p:Pt}:at' P p ≠ [] ↔ p ∈ P.flatten:=by
 constructor
 ·intro h
  obtain ⟨i,hi⟩:=List.exists_mem_of_ne_nil _ h
  simp only [at',List.mem_filter,List.mem_range,decide_eq_true_eq] at hi
  refine List.mem_flatten.2 ⟨P.getD i [],?_,hi.2⟩
  simp only [List.getD,List.getElem?_eq_getElem hi.1,Option.getD_some]
  exact List.getElem_mem ..
 ·intro h e
  obtain ⟨ps,h1,h2⟩:=List.mem_flatten.1 h
  obtain ⟨i,hi,rfl⟩:=List.getElem_of_mem h1
  have:i ∈ at' P p:=by
   simp only [at',List.mem_filter,List.mem_range,decide_eq_true_eq]
   exact ⟨hi,by simpa [List.getD,List.getElem?_eq_getElem hi] using h2⟩
  rw [e] at this; cases this
theorem xn (P:List (List Pt)) (e:Pt × List Nat):e ∈ mapJ P ↔ e.1 ∈ P.flatten/\e.2=at' P e.1:=by
 have h:=l7 P
 rw [xk h.nd,h.key,N9,h.get]
 exact ⟨fun ⟨a,b⟩=>⟨a,b.symm⟩,fun ⟨a,b⟩=>⟨a,b.symm⟩⟩
def ins:List J->J->List J
 | [],x=>[x]
 | y::r,x=>if lt y.1 x.1 then y::ins r x else if y.1=x.1 then y::r else x::y::r
def jt (P:List (List Pt)) (out:List J) (p:Pt):List J:=if (at' P p).length < 2 then out else ins out (p,at' P p)
def rH (P:List (List Pt)):List J:=P.flatten.foldl (jt P) []
def SJ (l:List J):Prop:=l.Pairwise fun a b=>lt a.1 b.1=true
theorem uf {l:List J} {x e:J} (h:e ∈ ins l x):e=x ∨ e ∈ l:=by
 induction l with
 | nil=>simpa [ins] using h
 | cons y r ih =>
   simp only [ins] at h
   split at h
   ·rcases List.mem_cons.1 h with h | h
    ·exact .inr (by simp [h])
    ·rcases ih h with h | h
     ·exact .inl h
     ·exact .inr (List.mem_cons_of_mem _ h)
   ·split at h
    ·exact .inr h
    ·rcases List.mem_cons.1 h with h | h
     ·exact .inl h
     ·exact .inr h
theorem FH {l:List J} {x e:J} (h:e ∈ l):e ∈ ins l x:=by
 induction l with
 | nil=>cases h
 | cons y r ih =>
   simp only [ins]
   split
   ·rcases List.mem_cons.1 h with h | h
    ·simp [h]
    ·exact List.mem_cons_of_mem _ (ih h)
   ·split
    ·exact h
    ·exact List.mem_cons_of_mem _ h
theorem FW {l:List J} {x:J}:∃ e ∈ ins l x,e.1=x.1:=by
 induction l with
 | nil=>exact ⟨x,by simp [ins],rfl⟩
 | cons y r ih =>
   simp only [ins]
   split
   ·obtain ⟨e,h1,h2⟩:=ih; exact ⟨e,List.mem_cons_of_mem _ h1,h2⟩
   ·split
    ·rename_i h; exact ⟨y,by simp,h⟩
    ·exact ⟨x,by simp,rfl⟩
theorem yk {l:List J} {x:J} (h:SJ l):SJ (ins l x):=by
 unfold SJ at *
 induction l with
 | nil=>simp [ins]
 | cons y r ih =>
   simp only [ins]
   have hc:=List.pairwise_cons.1 h
   split
   ·rename_i h1
    refine List.pairwise_cons.2 ⟨fun e he=>?_,ih hc.2⟩
    rcases uf he with rfl | he
    ·exact h1
    ·exact hc.1 e he
   ·rename_i h1
    split
    ·exact h
    ·rename_i h2
     have h3:=D2 (by simpa using h1) h2
     refine List.pairwise_cons.2 ⟨fun e he=>?_,h⟩
     rcases List.mem_cons.1 he with rfl | he
     ·exact h3
     ·exact lt_trans h3 (hc.1 e he)
theorem zK (P:List (List Pt)):∀ (ps:List Pt) (out:List J) (D:List Pt),SJ out->(∀ e,e ∈ out ↔ e.1 ∈ D/\e.2=at' P e.1/\2<=e.2.length)->SJ (ps.foldl (jt P) out)/\∀ e,e ∈ ps.foldl (jt P) out ↔ e.1 ∈ D++ps/\e.2=at' P e.1/\2<=e.2.length
 | [],out,D,h1,h2=>by simpa using ⟨h1,fun a b l=>h2 ((a,b),l)⟩
 | p :: ps,out,D,h1,h2=>by
   rw [List.foldl_cons]
   have key:SJ (jt P out p)/\∀ e,e ∈ jt P out p ↔ e.1 ∈ D++[p]/\e.2=at' P e.1/\2<=e.2.length:=by
    unfold jt
    split
    ·rename_i hl
     refine ⟨h1,fun e=>?_⟩
     rw [h2 e]
     simp only [List.mem_append,List.mem_singleton]
     refine ⟨fun ⟨a,b⟩=>⟨.inl a,b⟩,fun ⟨a,b,c⟩=>⟨a.elim id fun e'=>?_,b,c⟩⟩
     rw [b,e'] at c; omega
    ·rename_i hl
     refine ⟨yk h1,fun e=>?_⟩
     simp only [List.mem_append,List.mem_singleton]
     constructor
     ·intro he
      rcases uf he with rfl | he
      ·exact ⟨.inr rfl,rfl,by simp only; omega⟩
      ·obtain ⟨a,b⟩:=(h2 e).1 he; exact ⟨.inl a,b⟩
     ·rintro ⟨a | a,b,c⟩
      ·exact FH ((h2 e).2 ⟨a,b,c⟩)
      ·obtain ⟨y,g1,g2⟩:=FW (l:=out) (x:=(p,at' P p))
       have:y=e:=by
        rcases uf g1 with rfl | g3
        ·exact Prod.ext a.symm (by rw [b,a])
        ·have:=(h2 y).1 g3
         exact Prod.ext (g2.trans a.symm) (by rw [this.2.1,b,a,g2])
       rw [← this]; exact g1
   obtain ⟨k1,k2⟩:=zK P ps _ (D++[p]) key.1 key.2
   exact ⟨k1,fun e=>by rw [k2 e]; simp⟩
theorem Av (P:List (List Pt)):SJ (rH P)/\∀ e,e ∈ rH P ↔ e.1 ∈ P.flatten/\e.2=at' P e.1/\2<=e.2.length:=by
 have:=zK P P.flatten [] [] List.Pairwise.nil (fun e=>by simp)
 simpa [rH] using this
theorem sL:∀ (l r:List J),SJ l->SJ r->(∀ e,e ∈ l ↔ e ∈ r)->l=r
 | [],[],_,_,_=>rfl
 | [],y::r,_,_,h=>by have:=(h y).2 (by simp); cases this
 | x::l,[],_,_,h=>by have:=(h x).1 (by simp); cases this
 | x :: l,y::r,h1,h2,h=>by
   have c1:=List.pairwise_cons.1 h1
   have c2:=List.pairwise_cons.1 h2
   have e:x=y:=by
    rcases List.mem_cons.1 ((h x).1 (by simp)) with e | hx
    ·exact e
    ·rcases List.mem_cons.1 ((h y).2 (by simp)) with e | hy
     ·exact e.symm
     ·have:=CV (c1.1 y hy); rw [c2.1 x hx] at this; cases this
   subst e
   refine congrArg _ (sL l r c1.2 c2.2 fun e=>⟨fun he=>?_,fun he=>?_⟩)
   ·rcases List.mem_cons.1 ((h e).1 (List.mem_cons_of_mem _ he)) with rfl | h'
    ·have:=c1.1 e he; rw [lt_irrefl] at this; cases this
    ·exact h'
   ·rcases List.mem_cons.1 ((h e).2 (List.mem_cons_of_mem _ he)) with rfl | h'
    ·have:=c2.1 e he; rw [lt_irrefl] at this; cases this
    ·exact h'
theorem sN {P:List (List Pt)} {L:List J} (hp:L.Perm ((mapJ P).filter fun e=>decide (1 < e.2.length))) (hs:L.Pairwise fun a b=>lt b.1 a.1=false):L=rH P:=by
 obtain ⟨r1,r2⟩:=Av P
 have hnd:(L.map (·.1)).Nodup:=by
  have:((mapJ P).filter fun e=>decide (1 < e.2.length)).Sublist (mapJ P):=List.filter_sublist
  exact ((hp.map (·.1)).nodup_iff).2 ((l7 P).nd.sublist (this.map (·.1)))
 refine sL L _ ?_ r1 fun e=>?_
 ·unfold SJ
  have hn:L.Pairwise fun a b=>a.1 ≠ b.1:=List.pairwise_map.1 hnd
  refine (hs.and hn).imp fun {a b} ⟨h1,h2⟩=>D2 h1 (Ne.symm h2)
 ·rw [hp.mem_iff,r2 e,List.mem_filter,xn]
  simp only [decide_eq_true_eq]
  exact ⟨fun ⟨⟨a,b⟩,c⟩=>⟨a,b,c⟩,fun ⟨a,b,c⟩=>⟨⟨a,b⟩,c⟩⟩
end Go.Jn
namespace Go.Dx
open Go.Sx Go.Proofs Go.Jn
abbrev Es:=List (Pt × Value)
def kpP (p:Pt):Value:=kp p.1 p.2
def entE:Es->Nat->List MapEntry
 | [],_=>[]
 | x::E,k=>{ key:=kpP x.1,val:=x.2,born:=k }::entE E (k+1)
def fnd:Es->Nat->Pt->Option (Nat × Value)
 | [],_,_=>none
 | x::E,i,p=>if x.1=p then some (i,x.2) else fnd E (i+1) p
def jv:Es->Pt->Value->Es
 | [],p,v=>[(p,v)]
 | x::E,p,v=>if x.1=p then (p,v)::E else x::jv E p v
theorem O9 (p q:Pt) (w:World):(Op.equal 72 (kpP p) (kpP q)).run Tryz.prog w=.ok (decide (p=q)) w:=by
 refine (hE 72 (by decide)).2 2 (by kernel_rfl) [.int .i64 p.1,.int .i64 p.2] [.int .i64 q.1,.int .i64 q.2] _ _ (fun _=>none) _ w rfl (by simp [af,vrel]) (by simp [af,vrel]) ?_
 simp only [bX,if_true,Option.map_some,Option.some.injEq]
 rw [Bool.eq_iff_iff]
 simp [Prod.ext_iff]
theorem xt (w:World) (p:Pt):∀ (E:Es) (i k:Nat),(Instr.findAsking 72 (kpP p) (entE E k) i).run Tryz.prog w=.ok (fnd E i p) w
 | [],i,k=>rfl
 | x::E,i,k=>by
   simp only [entE,Instr.findAsking,Sem.run_bind,O9,Result.andThen_ok,fnd]
   by_cases h:x.1=p
   ·rw [if_pos h,decide_eq_true h.symm]; rfl
   ·rw [if_neg h,decide_eq_false (fun e=>h e.symm)]
    exact xt w p E (i+1) (k+1)
theorem u72:∃ n e,Tryz.prog.underlying 72=some (.array n e):=⟨2,3,by kernel_rfl⟩
theorem sY (w:World) (p:Pt) (E:Es):(Instr.findKey 72 (kpP p) (entE E 0)).run Tryz.prog w=.ok (fnd E 0 p) w:=by
 obtain ⟨n,e,hu⟩:=u72
 rw [← xt w p E 0 0]
 cases E with
 | nil=>simp [entE,Instr.findKey,am hu,Instr.findNow,Instr.findAsking]
 | cons x E=>simp [entE,Instr.findKey,am hu,Instr.findNow,Instr.sameNow]
theorem Gy (e:Bool) (p:Pt) (w:World):(Instr.checkKey e 10000 72 (kpP p)).run Tryz.prog w=.ok () w:=by kernel_rfl
def jp (E:Es) (p:Pt):Value:=match fnd E 0 p with
 | some (_,v)=>v
 | none=>.slice none 0 0
section
variable {r clk:Nat} {E:Es} {w:World} {p:Pt}
theorem Eu (hb:w.heap[r]? = some (.map (entE E 0).toArray clk)):(Instr.lookup 152 (.map (some r)) (kpP p) false).run Tryz.prog w=.ok (jp E p) w:=by
 have hf:=sY w p E
 unfold jp
 cases h:fnd E 0 p with
 | none=>simp [Instr.lookup,am ER,MapKept.run_getObj_map hb,Gy,hf,h,Result.andThen]
 | some x=>obtain ⟨i,v⟩:=x; simp [Instr.lookup,am ER,MapKept.run_getObj_map hb,Gy,hf,h,Result.andThen]
theorem wt:∀ {E:Es} {i:Nat},fnd E i p=none->∀ v,jv E p v=E++[(p,v)]
 | [],_,_,v=>rfl
 | x::E,i,h,v=>by
   simp only [fnd] at h
   split at h
   ·cases h
   ·rename_i hx
    simp only [jv,if_neg hx,List.cons_append,wt h v]
theorem qp:∀ {E:Es} {i j:Nat} {u:Value},fnd E i p=some (j,u)->i<=j/\E[j - i]? = some (p,u)/\∀ v,jv E p v=E.set (j - i) (p,v)
 | [],_,_,_,h=>by cases h
 | x::E,i,j,u,h=>by
   simp only [fnd] at h
   split at h
   ·rename_i hx
    cases h
    exact ⟨Nat.le_refl _,by simp [← hx],fun v=>by simp [jv,if_pos hx]⟩
   ·rename_i hx
    obtain ⟨h1,h2,h3⟩:=qp h
    have e:j - i=(j - (i+1))+1:=by omega
    refine ⟨by omega,by rw [e]; simpa using h2,fun v=>?_⟩
    rw [e]
    simp only [jv,if_neg hx,List.set_cons_succ,h3 v]
theorem xD (E:Es) (x:Pt × Value):∀ k,entE (E++[x]) k=entE E k++[{ key:=kpP x.1,val:=x.2,born:=k+E.length }]:=by
 induction E with
 | nil=>intro k; rfl
 | cons y E ih =>
   intro k
   simp only [List.cons_append,entE,ih]
   simp only [List.length_cons]
   rw [show k+1+E.length=k+(E.length+1) by omega]
theorem gg:∀ (E:Es) (k j:Nat),(entE E k)[j]? = (E[j]?).map fun x=>{ key:=kpP x.1,val:=x.2,born:=k+j }
 | [],k,j=>by simp [entE]
 | x::E,k,0=>by simp [entE]
 | x::E,k,j+1=>by
   simp only [entE,List.getElem?_cons_succ,gg E (k+1) j]
   rw [show k+1+j=k+(j+1) by omega]
theorem CE {E:Es} {j:Nat} {p:Pt} {u v:Value} (h:E[j]? = some (p,u)) (k:Nat):(entE E k).toArray.modify j (fun e=>{ e with key:=kpP p,val:=v })=(entE (E.set j (p,v)) k).toArray:=by
 apply Array.toList_inj.1
 rw [Array.toList_modify]
 apply List.ext_getElem?
 intro i
 rw [List.getElem?_modify,gg,gg,List.getElem?_set]
 by_cases hi:j=i
 ·subst hi
  have hlt:=(List.getElem?_eq_some_iff.1 h).1
  simp [hlt]
 ·rw [if_neg hi]
  cases E[i]? <;> simp [hi]
theorem F4 (p:Pt):Instr.sameBits 10000 (kpP p) (kpP p)=true:=by
 simp [kpP,kp,Instr.sameBits]
theorem Gh (hb:w.heap[r]? = some (.map (entE E 0).toArray E.length)) (v:Value):(Instr.mapUpdate 152 (.map (some r)) (kpP p) v).run Tryz.prog w=.ok () (w.putObj r (.map (entE (jv E p v) 0).toArray (jv E p v).length)):=by
 have hf:=sY w p E
 cases h:fnd E 0 p with
 | none =>
   rw [wt h v,xD]
   simp [Instr.mapUpdate,am ER,MapKept.run_getObj_map hb,Gy,hf,h,MapKept.run_setObj_map _ hb,Result.andThen,World.putObj]
 | some x =>
   obtain ⟨j,u⟩:=x
   obtain ⟨h1,h2,h3⟩:=qp h
   rw [Nat.sub_zero] at h2 h3
   rw [h3 v,← CE h2,List.length_set]
   have hk:((entE E 0).toArray[j]?).map (·.key)=some (kpP p):=by
    rw [List.getElem?_toArray,gg,h2]; rfl
   have hk2:(Instr.keyThatStays ((((entE E 0).toArray[j]?).map (·.key)).getD (kpP p)) (kpP p)).run Tryz.prog w=.ok (kpP p) w:=by
    rw [hk]
    simp [Instr.keyThatStays,F4]
   simp only [Instr.mapUpdate,Sem.run_bind,am ER,Result.andThen_ok,MapKept.run_getObj_map hb,Gy,hf,h,hk2,MapKept.run_setObj_map _ hb]
   rfl
end
end Go.Dx
namespace Go.Dx
open Go.Sx Go.Proofs
def ku (w:World) (v:Value) (l:List Nat):Prop:=(v=.slice none 0 0/\l=[]) ∨ ∃ q c vs,v=.slice (some ⟨q,0,none⟩) l.length c/\w.heap[q]? = some (.cells vs 3 (0,0))/\vs.size=c/\l.length<=c/\vs.toList.take l.length=l.map fun (i:Nat)=>Value.int .i64 i
theorem ku.keep {w w':World} {v:Value} {l:List Nat} (h:ku w v l) (hk:∀ q,v.ownBlock=some q->w'.heap[q]? = w.heap[q]?):ku w' v l:=by
 rcases h with h | ⟨q,c,vs,rfl,h1,h2⟩
 ·exact .inl h
 ·exact .inr ⟨q,c,vs,rfl,(hk q rfl).trans h1,h2⟩
theorem ku.blk {w:World} {v:Value} {l:List Nat} (h:ku w v l) {q:Nat} (hq:v.ownBlock=some q):∃ cs,w.heap[q]? = some (.cells cs 3 (0,0)):=by
 rcases h with ⟨rfl,_⟩ | ⟨g,c,vs,rfl,h1,h2⟩
 ·cases hq
 ·cases hq; exact ⟨_,h1⟩
theorem ku.some {w:World} {v:Value} {l:List Nat} (h:ku w v l) (hn:l ≠ []):∃ q,v.ownBlock=some q:=by
 rcases h with ⟨_,h⟩ | ⟨g,c,vs,rfl,h1,h2⟩
 ·exact (hn h).elim
 ·exact ⟨g,rfl⟩
theorem xW {B:bm} {m:ao} {lh:List ac} {w:World} (h:aw B m lh w) {b:Nat} {xa:List ab} {vs:Array Value} {ty:TypeId} (hb:w.heap[b]? = some (.cells vs ty (0,0)))
 (hs:af (fun k=>if k=lh.length then some b else m k) xa vs.toList) (h0:B.w0.heap.size<=b) (h1:B.wf.heap.size<=b) (hn:∀ k cs ty,lh[k]? = some (.cells cs ty)->m k ≠ some b):aw B (fun k=>if k=lh.length then some b else m k) (lh++[.cells xa ty]) w/\m.le (fun k=>if k=lh.length then some b else m k):=by
 have hle:m.le (fun k=>if k=lh.length then some b else m k):=fun k x hk=>by
  have:k ≠ lh.length:=fun e=>by rw [e,h.dom _ (Nat.le_refl _)] at hk; cases hk
  simp only [if_neg this]; exact hk
 have hget:∀ k cs ty',(lh++[ac.cells xa ty])[k]? = some (.cells cs ty')->(k=lh.length/\cs=xa/\ty'=ty) ∨ (k < lh.length/\lh[k]? = some (.cells cs ty')):=fun k cs ty' hk=>by
  rw [List.getElem?_append] at hk
  split at hk
  ·rename_i hlt; exact .inr ⟨hlt,hk⟩
  ·rename_i hge
   have:k - lh.length=0:=by
    apply Classical.byContradiction; intro hne
    rw [List.getElem?_eq_none (by simp; omega)] at hk; cases hk
   rw [this] at hk
   simp only [List.getElem?_cons_zero,Option.some.injEq,ac.cells.injEq] at hk
   exact .inl ⟨by omega,hk.1.symm,hk.2.symm⟩
 refine ⟨⟨h.os,h.tape,h.output,h.size,h.old,h.fsize,h.kept,fun k cs ty' hk=>?_,fun k k' b' cs cs' ty1 ty2 hk hk' hm hm'=>?_,fun k hk=>?_,fun k hk=>?_,fun k b' hk=>?_⟩,hle⟩
 ·rcases hget k cs ty' hk with ⟨rfl,rfl,rfl⟩ | ⟨hlt,hk⟩
  ·exact ⟨b,vs,by simp,hs,hb,h0,.inl h1⟩
  ·obtain ⟨b',vs',g1,g2,g3,g4,g5⟩:=h.loc k cs ty' hk
   exact ⟨b',vs',hle _ _ g1,bl hle _ _ g2,g3,g4,g5⟩
 ·rcases hget k cs ty1 hk with ⟨e1,_,_⟩ | ⟨l1,g1⟩ <;> rcases hget k' cs' ty2 hk' with ⟨e2,_,_⟩ | ⟨l2,g2⟩
  ·omega
  ·simp only [e1,if_true] at hm; simp only [if_neg (Nat.ne_of_lt l2)] at hm'; cases hm; exact (hn _ _ _ g2 hm').elim
  ·simp only [e2,if_true] at hm'; simp only [if_neg (Nat.ne_of_lt l1)] at hm; cases hm'; exact (hn _ _ _ g1 hm).elim
  ·simp only [if_neg (Nat.ne_of_lt l1)] at hm; simp only [if_neg (Nat.ne_of_lt l2)] at hm'; exact h.inj k k' b' cs cs' ty1 ty2 g1 g2 hm hm'
 ·simp only [List.length_append,List.length_cons,List.length_nil] at hk
  simp only [if_neg (show k ≠ lh.length by omega)]; exact h.dom k (by omega)
 ·rw [List.getElem?_append] at hk
  split at hk
  ·rename_i hlt; simp only [if_neg (Nat.ne_of_lt hlt)]; exact h.dead k hk
  ·rename_i hge
   have:k - lh.length=0:=by
    apply Classical.byContradiction; intro hne
    rw [List.getElem?_eq_none (by simp; omega)] at hk; cases hk
   rw [this] at hk; simp at hk
 ·by_cases e1:k=lh.length
  ·simp only [e1,if_true,Option.some.injEq] at hk; subst hk; exact (Array.getElem?_eq_some_iff.1 hb).1
  ·simp only [if_neg e1] at hk; exact h.rng k b' hk
theorem HR.snocG {w0:World} {ν:Nu} {nV nS:Nat} {h:List O} {lh new:List ac} (hh:HR w0 ν nV nS h lh) {y:Option (Nat × Nat × Nat)} {e n:Nat} {f:Nat->List V} {ty:TypeId} (k2:vq w0 (upd ν h.length y) nV nS (lh++new) h.length (.gl e n f ty)) (k3:∀ z,y=some z->lh.length<=z.1/\z.1 < (lh++new).length):HR w0 (upd ν h.length y) nV nS (h++[.gl e n f ty]) (lh++new):=by
 have hp:=hh.dom h.length (Nat.le_refl _)
 have hsub:=dN (x:=y) hp
 have hcell:∀ k o,(h++[O.gl e n f ty])[k]? = some o->(k=h.length/\o=.gl e n f ty) ∨ (k < h.length/\h[k]? = some o):=fun k o hk=>by
  rw [List.getElem?_append] at hk
  split at hk
  ·rename_i hlt; exact .inr ⟨hlt,hk⟩
  ·have:k - h.length=0:=by
    apply Classical.byContradiction; intro hne
    rw [List.getElem?_eq_none (by simp; omega)] at hk; cases hk
   rw [this] at hk; simp at hk
   exact .inl ⟨by omega,hk.symm⟩
 have hlive:∀ k,aA (h++[O.gl e n f ty]) k->k=h.length ∨ aA h k:=fun k hl=>by
  rcases cy hl with ⟨cs,t,hk⟩ | ⟨_,_,_,_,hk⟩
  ·rcases hcell k _ hk with ⟨e1,_⟩ | ⟨_,g⟩
   ·exact .inl e1
   ·exact .inr (bT g)
  ·rcases hcell k _ hk with ⟨e1,_⟩ | ⟨_,g⟩
   ·exact .inl e1
   ·exact .inr (di g)
 have hne:∀ k,aA h k->k ≠ h.length:=fun k hl e1=>by
  rcases cy hl with ⟨cs,t,hk⟩ | ⟨_,_,_,_,hk⟩ <;> (have:=(List.getElem?_eq_some_iff.1 hk).1; omega)
 refine ⟨fun k o hk=>?_,fun k k' x1 x2 h1 h2 h3 h4 h5=>?_,fun k hk=>?_,fun k x1 hk=>?_,fun j xa ty hj=>?_,fun k x1 hl hk=>?_⟩
 ·rcases hcell k o hk with ⟨rfl,rfl⟩ | ⟨hlt,hk⟩
  ·exact k2
  ·by_cases hd:o=.dead
   ·subst hd
    obtain ⟨g1,g2,g3⟩:=hh.blk k _ hk
    exact ⟨by rw [cg,if_neg (Nat.ne_of_lt hlt)]; exact g1,g2,by rw [List.getElem?_append_left (List.getElem?_eq_some_iff.1 g3).1]; exact g3⟩
   ·exact bS hsub hd (fun b xa ty' g1 _=>by rw [List.getElem?_append_left (List.getElem?_eq_some_iff.1 g1).1]; exact g1) (hh.blk k _ hk)
 ·rw [cg] at h3 h4
  rcases hlive k h1 with e1 | e1 <;> rcases hlive k' h2 with e2 | e2
  ·omega
  ·rw [if_pos e1] at h3; rw [if_neg (hne _ e2)] at h4; simp only [Option.some.injEq] at h3
   have:=(k3 _ h3).1; have:=hh.rng _ _ h4; omega
  ·rw [if_neg (hne _ e1)] at h3; rw [if_pos e2] at h4; simp only [Option.some.injEq] at h4
   have:=(k3 _ h4).1; have:=hh.rng _ _ h3; omega
  ·rw [if_neg (hne _ e1)] at h3; rw [if_neg (hne _ e2)] at h4
   exact hh.inj k k' x1 x2 e1 e2 h3 h4 h5
 ·simp only [List.length_append,List.length_cons,List.length_nil] at hk
  rw [cg,if_neg (by omega)]; exact hh.dom k (by omega)
 ·rw [cg] at hk
  split at hk
  ·simp only [Option.some.injEq] at hk; exact (k3 _ hk).2
  ·rw [List.length_append]; exact Nat.lt_of_lt_of_le (hh.rng k x1 hk) (by omega)
 ·have g1:=hh.zl j xa ty hj
  rw [List.getElem?_append_left (List.getElem?_eq_some_iff.1 g1).1]; exact g1
 ·rw [cg] at hk
  rcases hlive k hl with e1 | e1
  ·rw [if_pos e1] at hk; simp only [Option.some.injEq] at hk
   have:=(k3 _ hk).1
   exact Ag hh.zl (by rw [List.getElem?_eq_none (by omega)]; rfl)
  ·rw [if_neg (hne _ e1)] at hk; exact hh.zn k x1 e1 hk
def lF (l:List Nat):Nat->List V:=fun i=>[.int .i64 ((l.getD i 0:Nat):Int)]
theorem kY (m:ao):∀ l:List Nat,af m (l.map fun (i:Nat)=>ab.int .i64 i) (l.map fun (i:Nat)=>Value.int .i64 i)
 | []=>by simp [af]
 | x::l=>by simp only [List.map_cons,af]; exact ⟨_,_,rfl,by simp only [vrel],kY m l⟩
theorem ji {m:ao} {x:ab} {v:Value}:∀ {xs:List ab} {vs:List Value} (d:Nat),af m xs vs->vs[d]? = some v->vrel m x v->af m (xs.set d x) vs
 | [],vs,d,h,_,_=>by simpa using h
 | y::xs,vs,0,h,hv,hx=>by
   simp only [af] at h; obtain ⟨u,us,rfl,h1,h2⟩:=h
   simp at hv; subst hv
   simp only [List.set_cons_zero,af]; exact ⟨_,_,rfl,hx,h2⟩
 | y::xs,vs,d+1,h,hv,hx=>by
   simp only [af] at h; obtain ⟨u,us,rfl,h1,h2⟩:=h
   simp only [List.set_cons_succ,af]; exact ⟨_,_,rfl,h1,ji d h2 (by simpa using hv) hx⟩
section
variable {B:bm} {N:Nat} {e:Env} {h:List O} {G:List (Nat × Value)} {Fr:Nat->Prop} {Pn:List (Nat × Nat × Nat)} {a:Act} {w:World}
theorem VX.adopt (hs:VX B N e h G Fr Pn a w) {d:Nat} {v:Value} (hd:d < N) (hG:(d,v) ∈ G) {l:List Nat} (hr:ku w v l) (hm:l.length<=9223372036854775807) (hq:∀ q,v.ownBlock=some q->Fr q) {G':List (Nat × Value)} (hG':∀ p ∈ G',p ∈ G) (ho:wH G' (some d)) {Fr':Nat->Prop} (hF:∀ q,Fr' q->Fr q/\v.ownBlock ≠ some q) {Pn':List (Nat × Nat × Nat)} (hP:∀ x ∈ Pn',x.1=h.length/\v=.slice (some ⟨x.2.1,0,none⟩) l.length x.2.2) :
 VX B N ((d,.gs h.length l.length)::e) (h++[.gl 1 l.length (lF l) 3]) G' Fr' Pn' a w:=by
 have hv:=hs.at_raw hG
 obtain ⟨m,sl,lh,ν,nV,nS,h1,h2,h3,h4,h5,h6,h7,h8⟩:=hs
 have hp:=h5.dom h.length (Nat.le_refl _)
 have h6':Raw G' sl:=fun p hp=>h6 p (hG' p hp)
 rcases hr with ⟨rfl,rfl⟩ | ⟨q,c,vs,rfl,g1,g2,g3,g4⟩
 ·have hsub:=dN (x:=none) hp
  refine ⟨m,cA sl (some d) (.slice none 0 0),lh,upd ν h.length none,nV,nS,ji d h1 (by simpa using hv) (by simp only [vrel,bN]; exact ⟨none,rfl,rfl⟩),h2,h3,(h4.mono hsub).put (some d) (fun _ e=>by cases e; exact hd) (by simp only [vr]; exact .inl ⟨bY _ _ _,by simp⟩),?_,h6'.put ho _,fun x hx=>h7 x (hF x hx).1,fun x hx=>by have:=(hP x hx).2; simp at this⟩
  have:=h5.snocG (new:=[]) (y:=none) (e:=1) (n:=0) (f:=lF []) (ty:=3) (.inl ⟨bY _ _ _,rfl⟩) (fun z hz=>by cases hz)
  rwa [List.append_nil] at this
 ·obtain ⟨f1,f2,f3,f4⟩:=h7 q (hq q rfl)
  have hvs:af (fun k=>if k=lh.length then some q else m k) (l.map (fun (i:Nat)=>ab.int .i64 i)++List.replicate (vs.toList.drop l.length).length .any) vs.toList:=by
   have:=bC (kY (fun k=>if k=lh.length then some q else m k) l) (i8 (m:=fun k=>if k=lh.length then some q else m k) (vs.toList.drop l.length))
   rwa [← g4,List.take_append_drop] at this
  obtain ⟨k1,k2⟩:=xW h3 g1 hvs f2 f3 f4
  have hsub:=dN (x:=some (lh.length,c,1)) hp
  refine ⟨_,cA sl (some d) (.slice (some (.l lh.length 0)) l.length c),_,upd ν h.length (some (lh.length,c,1)),nV,nS,ji d (bl k2 _ _ h1) (by simpa using hv) (by simp only [vrel,bN]; exact ⟨_,rfl,q,by simp,rfl⟩),h2,k1,(h4.mono hsub).put (some d) (fun _ e=>by cases e; exact hd) (by simp only [vr]; exact .inr ⟨_,c,1,bY _ _ _,rfl,g3⟩),h5.snocG (.inr ⟨lh.length,c,_,bY _ _ _,by rw [List.getElem?_append_right (Nat.le_refl _),Nat.sub_self]; rfl,?_,⟨g3,hm⟩,fun i hi=>⟨rfl,?_⟩⟩) (fun z hz=>by cases hz; simp),h6'.put ho _,fun x hx=>?_,fun x hx=>?_⟩
  ·simp only [List.length_append,List.length_map,List.length_replicate,List.length_drop,Array.length_toList]; omega
  ·rw [Nat.mul_one,List.drop_append_of_le_length (by simp; omega),List.take_append_of_le_length (by simp; omega)]
   have:((l.map fun (i:Nat)=>ab.int .i64 i).drop i).take 1=[ab.int .i64 ((l.getD i 0:Nat):Int)]:=by
    rw [List.drop_eq_getElem_cons (by simpa using hi)]
    simp [List.getD,List.getElem?_eq_getElem hi]
   rw [this]
   simp only [lF,vrs,vr]
   exact ⟨_,_,rfl,rfl,rfl⟩
  ·obtain ⟨p1,p2,p3,p4⟩:=h7 x (hF x hx).1
   refine ⟨p1,p2,p3,fun k cs ty hk hm'=>?_⟩
   rw [List.getElem?_append] at hk
   split at hk
   ·rename_i hlt
    simp only [if_neg (Nat.ne_of_lt hlt)] at hm'
    exact p4 k cs ty hk hm'
   ·have hkl:k=lh.length:=by
     apply Classical.byContradiction; intro hne
     rw [List.getElem?_eq_none (by simp; omega)] at hk; cases hk
    simp only [hkl,if_true,Option.some.injEq] at hm'
    exact (hF x hx).2 (by rw [← hm']; rfl)
  ·obtain ⟨p1,p2⟩:=hP x hx
   simp only [Value.slice.injEq,Option.some.injEq,Addr.mk.injEq,and_true,true_and] at p2
   refine ⟨lh.length,?_,by simp [p2.1]⟩
   rw [p1,bY,p2.2]
theorem VX.release (hs:VX B N e h G Fr Pn a w) (hB:∀ b,¬ B.own b) {d k n n':Nat} {f:Nat->List V} (hd:d < N) (he:cH e d=.gs k n) (hk:h[k]? = some (.gl 1 n' f 3)) (hn':n<=n') {l:List Nat} (hl:l.length=n) (hn:l ≠ []) (hf:∀ i,i < n->f i=lF l i) {e1:Env} (he1:kZ [] e e1) (hed:cH e1 d=.any) {G':List (Nat × Value)} (hG':∀ p ∈ G',p ∈ G) (ho:wH G' (some d)) :
 ∃ v q,ku w v l/\v.ownBlock=some q/\¬ Fr q/\(∀ x ∈ Pn,x.1=k->v=.slice (some ⟨x.2.1,0,none⟩) n x.2.2)/\VX B N e1 [] ((d,v)::G') (fun x=>Fr x ∨ x=q) [] a w:=by
 obtain ⟨m,sl,lh,ν,nV,nS,h1,h2,h3,h4,h5,h6,h7,h8⟩:=hs
 have hpos:0 < n:=by rw [← hl]; exact List.length_pos_iff.2 hn
 have hr:=h4.at' d
 rw [he] at hr
 have hlt:d < sl.length:=by rw [h4.len]; exact hd
 have hgd:sl[d]? = some (sl.getD d .any):=by simp [List.getD,List.getElem?_eq_getElem hlt]
 simp only [vr] at hr
 rcases hr with ⟨_,h0,_⟩ | ⟨b,c,e',r1,r2,r3⟩
 ·omega
 rw [r2] at hgd
 obtain ⟨u,hu,hur⟩:=cU d h1 hgd
 simp only [vrel,bN] at hur
 obtain ⟨qa,rfl,q,r4,rfl⟩:=hur
 rcases h5.blk k _ hk with ⟨g1,_⟩ | ⟨b',c',xa,g1,g2,g3,g4,g5⟩
 ·rw [g1] at r1; cases r1
 rw [g1] at r1
 obtain ⟨rfl,rfl,rfl⟩:b'=b/\c'=c/\1=e':=by simpa using r1
 obtain ⟨q',vs,s1,s2,s3,s4,s5⟩:=h3.loc b' xa 3 g2
 rw [r4] at s1; cases s1
 have hlen:=bo s2
 rw [Array.length_toList] at hlen
 have hzn:=h5.zn k _ (di hk) g1
 have hget:∀ j cs ty,(lh.set b' .hid)[j]? = some (.cells cs ty)->j ≠ b'/\lh[j]? = some (.cells cs ty):=fun j cs ty hj=>by
  rw [List.getElem?_set] at hj
  split at hj
  ·split at hj <;> simp at hj
  ·rename_i hne; exact ⟨fun e=>hne e.symm,hj⟩
 refine ⟨Value.slice (some ⟨q,0,none⟩) n c',q,Or.inr ⟨q,c',vs,by rw [hl],s3,by omega,by omega,?_⟩,rfl,fun hfr=>(h7 q hfr).2.2.2 b' xa 3 g2 r4,fun x hx hxk=>?_,m,cA sl (some d) (.raw (Value.slice (some ⟨q,0,none⟩) n c')),lh.set b' .hid,ge [] ν,0,0,ji d h1 hu (by simp only [vrel]),h2,⟨h3.os,h3.tape,h3.output,h3.size,h3.old,h3.fsize,h3.kept,fun j cs ty hj=>h3.loc j cs ty (hget j cs ty hj).2,fun j j' x cs cs' ty ty' hj hj'=>h3.inj j j' x cs cs' ty ty' (hget j cs ty hj).2 (hget j' cs' ty' hj').2,fun j hj=>h3.dom j (by simpa using hj),fun j hj=>?_,h3.rng⟩,⟨?_,fun i=>?_⟩,⟨fun j o hj=>by simp at hj,fun j j' x x' hj=>?_,fun j _=>by simp [ge,b9,nth],fun j x hj=>by simp [ge,b9,nth] at hj,fun j xa' ty hj=>?_,fun j x hj=>?_⟩,fun p hp=>?_,fun x hx=>?_,fun x hx=>by cases hx⟩
 ·apply List.ext_getElem?
  intro i
  rw [List.getElem?_take]
  split
  ·rename_i hi
   have h5i:=(g5 i (by omega)).2
   rw [hf i (by omega),Nat.mul_one] at h5i
   simp only [lF,vrs,vr] at h5i
   obtain ⟨x,xs,e1,rfl,rfl⟩:=h5i
   have hai:xa[i]? = some (.int .i64 ((l.getD i 0:Nat):Int)):=by
    have:=congrArg (fun t=>t[0]?) e1
    simpa [List.getElem?_take,List.getElem?_drop] using this
   obtain ⟨y,hy,hyr⟩:=cU i s2 hai
   simp only [vrel] at hyr
   rw [hy,hyr]
   simp [List.getD,List.getElem?_eq_getElem hi]
  ·rename_i hi
   rw [List.getElem?_eq_none (by simp; omega)]
 ·obtain ⟨b0,t1,t2⟩:=h8 x hx
  rw [hxk,g1] at t1
  obtain ⟨rfl,t3⟩:b'=b0/\c'=x.2.2:=by simpa using t1
  rw [r4] at t2
  simp only [Option.some.injEq] at t2
  rw [t2,t3]
 ·rw [List.getElem?_set] at hj
  split at hj
  ·split at hj <;> simp at hj
  ·exact h3.dead j hj
 ·rw [dW]; exact h4.len
 ·by_cases hi:i=d
  ·subst hi; rw [hed]; simp only [vr]
  ·have hsl:(cA sl (some d) (.raw (.slice (some ⟨q,0,none⟩) n c'))).getD i .any=sl.getD i .any:=by
    simp only [cA,List.getD,List.getElem?_set]
    rw [if_neg (fun e=>hi e.symm)]
   rw [hsl]
   rcases nq i he1 with h0 | h0
   ·rw [h0]; simp only [vr]
   ·exact uY (ν:=ν) (ρ:=[]) _ _ _ h0 (h4.at' i)
 ·exact absurd hj (by simp [aA,cB,nth])
 ·have g:=h5.zl j xa' ty hj
  rw [List.getElem?_set]
  rw [if_neg (fun e=>?_)]
  ·exact g
  ·subst e
   have hj':ν.z[b']? = some (.cells xa' ty):=hj
   simp only at hzn
   rw [hj'] at hzn; cases hzn
 ·exact absurd hj (by simp [aA,cB,nth])
 ·rcases List.mem_cons.1 hp with rfl | hp
  ·simp only [cA,List.getD,List.getElem?_set_self hlt,Option.getD_some]
  ·exact (show Raw G' sl from fun p hp=>h6 p (hG' p hp)).put ho _ p hp
 ·rcases hx with hx | rfl
  ·obtain ⟨p1,p2,p3,p4⟩:=h7 x hx
   exact ⟨p1,p2,p3,fun j cs ty hj=>p4 j cs ty (hget j cs ty hj).2⟩
  ·exact ⟨h3.rng _ _ r4,s4,s5.resolve_right (hB _),fun j cs ty hj hm=>(hget j cs ty hj).1 (h3.inj j b' x cs xa ty 3 (hget j cs ty hj).2 g2 hm r4)⟩
end
end Go.Dx
namespace Go.Dx
open Go.Sx Go.Proofs Go.Jn
theorem wb {p:Pt} {l:List Nat}:∀ {E:Es} {M:Mp} {i:Nat},E.map (·.1)=M.map (·.1)->fnd E i p=none->bp M p=[]
 | [],[],_,_,_=>rfl
 | x::E,y::M,i,h,hf=>by
   simp only [List.map_cons,List.cons.injEq] at h
   simp only [fnd] at hf
   split at hf
   ·cases hf
   ·rename_i hx
    simp only [bp,if_neg (h.1 ▸ hx),wb (l:=l) h.2 hf]
 | [],_::_,_,h,_=>by simp at h
 | _::_,[],_,h,_=>by simp at h
theorem u7 {p:Pt} {v:Value} {l:List Nat}:∀ {E:Es} {M:Mp},E.map (·.1)=M.map (·.1)->(jv E p v).map (·.1)=(lc M p l).map (·.1)
 | [],[],_=>rfl
 | x::E,y::M,h=>by
   simp only [List.map_cons,List.cons.injEq] at h
   simp only [jv,lc]
   by_cases hx:x.1=p
   ·rw [if_pos hx,if_pos (h.1 ▸ hx)]; simp [h.2]
   ·rw [if_neg hx,if_neg (h.1 ▸ hx)]; simp only [List.map_cons,h.1]; rw [u7 (l:=l) h.2]
 | [],_::_,h=>by simp at h
 | _::_,[],h=>by simp at h
theorem iy {p:Pt} {v:Value} {x:Pt × Value}:∀ {E:Es},(E.map (·.1)).Nodup->x ∈ jv E p v->x=(p,v) ∨ (x ∈ E/\x.1 ≠ p)
 | [],_,h=>by simp [jv] at h; exact .inl h
 | y :: E,hn,h=>by
   simp only [List.map_cons,List.nodup_cons] at hn
   simp only [jv] at h
   split at h
   ·rename_i hy
    rcases List.mem_cons.1 h with h | h
    ·exact .inl h
    ·exact .inr ⟨List.mem_cons_of_mem _ h,fun e=>hn.1 (by rw [hy,← e]; exact List.mem_map_of_mem h)⟩
   ·rename_i hy
    rcases List.mem_cons.1 h with h | h
    ·subst h; exact .inr ⟨List.mem_cons_self ..,hy⟩
    ·rcases iy hn.2 h with h | ⟨h1,h2⟩
     ·exact .inl h
     ·exact .inr ⟨List.mem_cons_of_mem _ h1,h2⟩
theorem Fe {E:Es} (hn:(E.map (·.1)).Nodup) {x:Pt × Value} (hx:x ∈ E) (i:Nat):∃ j,fnd E i x.1=some (j,x.2):=by
 induction E generalizing i with
 | nil=>cases hx
 | cons y E ih =>
   simp only [List.map_cons,List.nodup_cons] at hn
   simp only [fnd]
   rcases List.mem_cons.1 hx with rfl | hx
   ·rw [if_pos rfl]; exact ⟨_,rfl⟩
   ·rw [if_neg (fun e=>hn.1 (by rw [e]; exact List.mem_map_of_mem hx))]
    exact ih hn.2 hx (i+1)
theorem lR {E:Es} (hn:(E.map (·.1)).Nodup) {x:Pt × Value} (hx:x ∈ E):jp E x.1=x.2:=by
 obtain ⟨j,h⟩:=Fe hn hx 0
 unfold jp; rw [h]
structure MQ (B:bm) (r:Nat) (E:Es) (M:Mp) (S:Pt->Prop) (w:World):Prop where
 hp:w.heap[r]? = some (.map (entE E 0).toArray E.length)
 key:E.map (·.1)=M.map (·.1)
 nd:(E.map (·.1)).Nodup
 row:∀ x ∈ E,S x.1->ku w x.2 (bp M x.1)
 ne:∀ x ∈ E,bp M x.1 ≠ []
 dis:∀ x ∈ E,∀ y ∈ E,S x.1->S y.1->x.2.ownBlock=y.2.ownBlock->x.1=y.1
 z0:B.w0.heap.size<=r
 zf:B.wf.heap.size<=r
def FrS (E:Es) (S:Pt->Prop) (q:Nat):Prop:=∃ x ∈ E,S x.1/\x.2.ownBlock=some q
def bU:Pt->Prop:=fun _=>True
section
variable {B:bm} {r:Nat} {E:Es} {M:Mp} {S:Pt->Prop} {w w':World} {p:Pt}
theorem MQ.keep (h:MQ B r E M S w) (k:Kp (FrS E S) w w'):MQ B r E M S w':=⟨k.oth.same r _ h.hp rfl,h.key,h.nd,fun x hx hS=>(h.row x hx hS).keep fun q hq=>k.frn q ⟨x,hx,hS,hq⟩,h.ne,h.dis,h.z0,h.zf⟩
theorem MQ.less (h:MQ B r E M S w) {S':Pt->Prop} (hS:∀ p,S' p->S p):MQ B r E M S' w:=⟨h.hp,h.key,h.nd,fun x hx hs=>h.row x hx (hS _ hs),h.ne,fun x hx y hy h1 h2=>h.dis x hx y hy (hS _ h1) (hS _ h2),h.z0,h.zf⟩
theorem MQ.get (h:MQ B r E M bU w):ku w (jp E p) (bp M p)/\(∀ q,(jp E p).ownBlock=some q->FrS E bU q)/\∀ q,FrS E (· ≠ p) q->FrS E bU q/\(jp E p).ownBlock ≠ some q:=by
 cases hf:fnd E 0 p with
 | none =>
   have e0:jp E p=.slice none 0 0:=by unfold jp; rw [hf]
   rw [wb (l:=[]) h.key hf,e0]
   exact ⟨.inl ⟨rfl,rfl⟩,fun q hq=>(by cases hq),fun q ⟨x,h1,h2,h3⟩=>⟨⟨x,h1,trivial,h3⟩,fun e=>by cases e⟩⟩
 | some x =>
   obtain ⟨j,u⟩:=x
   have e0:jp E p=u:=by unfold jp; rw [hf]
   have hm:=List.mem_of_getElem? (qp hf).2.1
   rw [e0]
   refine ⟨h.row _ hm trivial,fun q hq=>⟨_,hm,trivial,hq⟩,fun q ⟨x,h1,h2,h3⟩=>⟨⟨x,h1,trivial,h3⟩,fun e=>h2 ?_⟩⟩
   exact h.dis x h1 _ hm trivial trivial (h3.trans e.symm)
theorem MQ.rne (h:MQ B r E M S w) {x:Pt × Value} (hx:x ∈ E) (hS:S x.1) {q:Nat} (hq:x.2.ownBlock=some q):q ≠ r:=fun e=>by
 subst e
 obtain ⟨cs,hc⟩:=(h.row x hx hS).blk hq
 rw [h.hp] at hc; cases hc
theorem MQ.back (h:MQ B r E M (· ≠ p) w) {q:Nat} (hv:ku w (jp E p) (bp M p)) (hb:(jp E p).ownBlock=some q) (hq:¬ FrS E (· ≠ p) q):MQ B r E M bU w:=by
 refine ⟨h.hp,h.key,h.nd,fun x hx _=>?_,h.ne,fun x hx y hy _ _ e=>?_,h.z0,h.zf⟩
 ·by_cases hxp:x.1=p
  ·have:=lR h.nd hx
   rw [hxp] at this
   rw [← this,hxp]; exact hv
  ·exact h.row x hx hxp
 ·by_cases hxp:x.1=p <;> by_cases hyp:y.1=p
  ·rw [hxp,hyp]
  ·have:=lR h.nd hx
   rw [hxp] at this
   exact (hq ⟨y,hy,hyp,by rw [← e,← this]; exact hb⟩).elim
  ·have:=lR h.nd hy
   rw [hyp] at this
   exact (hq ⟨x,hx,hxp,by rw [e,← this]; exact hb⟩).elim
  ·exact h.dis x hx y hy hxp hyp e
theorem MQ.set (h:MQ B r E M (· ≠ p) w) {v:Value} {l:List Nat} {q:Nat} (hl:l ≠ []) (hv:ku w v l) (hb:v.ownBlock=some q) (hq:¬ FrS E (· ≠ p) q):MQ B r (jv E p v) (lc M p l) bU (w.putObj r (.map (entE (jv E p v) 0).toArray (jv E p v).length)):=by
 have hlt:r < w.heap.size:=(Array.getElem?_eq_some_iff.1 h.hp).1
 have hqr:q ≠ r:=fun e=>by
  subst e
  obtain ⟨cs,hc⟩:=hv.blk hb
  rw [h.hp] at hc; cases hc
 refine ⟨World.putObj_heap_same hlt,u7 h.key,?_,fun x hx _=>?_,fun x hx=>?_,fun x hx y hy _ _ e=>?_,h.z0,h.zf⟩
 ·rw [u7 (l:=l) h.key]; exact tx (by rw [← h.key]; exact h.nd)
 ·rw [rx]
  rcases iy h.nd hx with rfl | ⟨h1,h2⟩
  ·rw [if_pos rfl]
   exact hv.keep fun q' hq'=>World.putObj_heap_other (fun e=>by rw [hb] at hq'; cases hq'; exact hqr e)
  ·rw [if_neg (fun e=>h2 e.symm)]
   exact (h.row x h1 h2).keep fun q' hq'=>World.putObj_heap_other (h.rne h1 h2 hq')
 ·rw [rx]
  rcases iy h.nd hx with rfl | ⟨h1,h2⟩
  ·rw [if_pos rfl]; exact hl
  ·rw [if_neg (fun e=>h2 e.symm)]; exact h.ne x h1
 ·rcases iy h.nd hx with rfl | ⟨h1,h2⟩ <;> rcases iy h.nd hy with rfl | ⟨h3,h4⟩
  ·rfl
  ·exact (hq ⟨y,h3,h4,by rw [← e]; exact hb⟩).elim
  ·exact (hq ⟨x,h1,h2,by rw [e]; exact hb⟩).elim
  ·exact h.dis x h1 y h3 h2 h4 e
theorem Gb {v:Value} {q:Nat} (hn:(E.map (·.1)).Nodup) (hb:v.ownBlock=some q):∀ x,FrS (jv E p v) bU x->FrS E (· ≠ p) x ∨ x=q:=fun x ⟨y,h1,_,h3⟩=>by
 rcases iy hn h1 with rfl | ⟨h4,h5⟩
 ·rw [hb] at h3; cases h3; exact .inr rfl
 ·exact .inl ⟨y,h4,h5,h3⟩
theorem D7 {q:Nat} (hn:(E.map (·.1)).Nodup) (hb:(jp E p).ownBlock=some q):∀ x,FrS E bU x->FrS E (· ≠ p) x ∨ x=q:=fun x ⟨y,h1,_,h3⟩=>by
 by_cases hy:y.1=p
 ·have:=lR hn h1
  rw [hy] at this
  rw [this,h3] at hb; cases hb; exact .inr rfl
 ·exact .inl ⟨y,h1,hy,h3⟩
end
noncomputable def xsO (l:List Oper) (ops:Array Oper):List SOp:=(bg Tryz.prog eqs ops l).getD []
noncomputable def tr (ct:aX) (xs:List SOp) (e:Env) (h:List O):T (Env × List O):=dR (jb ct LV) xs e h fun e h=>T.ret (e,h)
noncomputable def trD (ct:aX) (ds:List DOp) (e:Env) (h:List O):T (Env × List O):=nm (ju ct) ds e h fun e h=>T.ret (e,h)
noncomputable def x6:=xsO jo6.toList jo6
noncomputable def x7:=xsO jo7.toList jo7
noncomputable def x8:=xsO jo8.toList jo8
noncomputable def x9:=xsO jo9.toList jo9
noncomputable def x10:=xsO Et.toList Et
noncomputable def x12:=xsO CW.toList CW
noncomputable def x14:=xsO rW.toList rW
noncomputable def x15:=xsO BB.toList BB
noncomputable def y4:=xsO (jL.toList.take 2) jL
noncomputable def x11b:=xsO (jL.toList.drop 3) jL
noncomputable def BA:List DOp:=(eD Tryz.prog eqs gO).getD []
def lO:List Ty:=[.int .i64,.int .i64]
def pk:List Ty:=[.str,.int .i64,.sl lO,.int .i64]
abbrev jpL (fR:Nat->List V) (i:Nat):Nat:=ap (hdV (tlV (tlV (fR i))))
abbrev jpF (fR:Nat->List V) (i:Nat):Nat->List V:=atV (hdV (tlV (tlV (fR i))))
abbrev jpX (fP:Nat->List V) (j:Nat):Int:=iv (hdV (fP j))
abbrev jpY (fP:Nat->List V) (j:Nat):Int:=iv (hdV (tlV (fP j)))
def eA (i:Int) (nR:Nat) (fR:Nat->List V):Env:=[(23,.int .i64 i),(22,.int .i64 (nR:Int)),(21,.sl nR (elV pk fR))]
def eA7 (i:Int) (nR:Nat) (fR:Nat->List V):Env:=(6,.int .i64 i)::(7,.pl 0 0)::eA i nR fR
def eB (i j:Int) (nP:Nat) (fP:Nat->List V) (nR:Nat) (fR:Nat->List V):Env:=(6,.int .i64 i)::(31,.int .i64 j)::(30,.int .i64 (nP:Int))::(29,.sl nP (elV lO fP))::eA i nR fR
def eB9 (i j:Int) (nP:Nat) (fP:Nat->List V) (nR:Nat) (fR:Nat->List V):Env:=(9,.pl 0 0)::eB i j nP fP nR fR
def GL (l:List Nat) (i j:Int) (nP:Nat) (fP:Nat->List V) (nR:Nat) (fR:Nat->List V):Env:=(10,.gs 1 l.length)::eB9 i j nP fP nR fR
def hP (x y:Int):List O:=[.cells [.int .i64 x,.int .i64 y] 72]
def hP2 (x y:Int) (l:List Nat):List O:=hP x y++[.gl 1 l.length (lF l) 3]
theorem t6 (ct:aX) (i:Int) (nR:Nat) (fR:Nat->List V):tr ct x6 (eA i nR fR) []=.ret ([(24,.bool (decide (i < (↑nR:Int)))),(23,.int .i64 i),(22,.int .i64 (↑nR:Int)),(21,.sl nR (elV pk fR))],[]):=by kernel_rfl
theorem t7 (ct:aX) (i:Int) (nR:Nat) (fR:Nat->List V):tr ct x7 (eA i nR fR) []=.obi (true) (decide (0<=i/\i < (↑nR:Int))) (.ret ([(6,.int .i64 i),(7,.pl 0 0),(27,.agg [.str (sv (hdV (fR i.toNat))),.int .i64 (iv (hdV (tlV (fR i.toNat)))),.sl (ap (hdV (tlV (tlV (fR i.toNat))))) fun i_1=>ak [Ty.int .i64,Ty.int .i64] (atV (hdV (tlV (tlV (fR i.toNat)))) i_1),.int .i64 (iv (hdV (tlV (tlV (tlV (fR i.toNat))))))]),(26,.pd [.str (sv (hdV (fR i.toNat))),.int .i64 (iv (hdV (tlV (fR i.toNat)))),.sl (ap (hdV (tlV (tlV (fR i.toNat))))) fun i_1=>ak [Ty.int .i64,Ty.int .i64] (atV (hdV (tlV (tlV (fR i.toNat)))) i_1),.int .i64 (iv (hdV (tlV (tlV (tlV (fR i.toNat))))))]),(25,.int .i64 i),(23,.int .i64 i),(22,.int .i64 (↑nR:Int)),(21,.sl nR (elV pk fR))],[.cells [.str (sv (hdV (fR i.toNat))),.int .i64 (iv (hdV (tlV (fR i.toNat)))),.sl (ap (hdV (tlV (tlV (fR i.toNat))))) fun i_1=>ak [Ty.int .i64,Ty.int .i64] (atV (hdV (tlV (tlV (fR i.toNat)))) i_1),.int .i64 (iv (hdV (tlV (tlV (tlV (fR i.toNat))))))] 54])):=by kernel_rfl
theorem t8 (ct:aX) (i:Int) (nR:Nat) (fR:Nat->List V):tr ct x8 (eA7 i nR fR) [.cells [.str (sv (hdV (fR i.toNat))),.int .i64 (iv (hdV (tlV (fR i.toNat)))),.sl (jpL fR i.toNat) (elV lO (jpF fR i.toNat)),.int .i64 (iv (hdV (tlV (tlV (tlV (fR i.toNat))))))] 54]=.asm (true=true->jpL fR i.toNat<=9223372036854775807) (.ret ([(31,.int .i64 0),(30,.int .i64 (↑(ap (hdV (tlV (tlV (fR i.toNat))))):Int)),(29,.sl (ap (hdV (tlV (tlV (fR i.toNat))))) (elV lO (jpF fR i.toNat))),(28,.pl 0 2),(6,.int .i64 i),(7,.pl 0 0),(23,.int .i64 i),(22,.int .i64 (↑nR:Int)),(21,.sl nR (elV pk fR))],[.cells [.str (sv (hdV (fR i.toNat))),.int .i64 (iv (hdV (tlV (fR i.toNat)))),.sl (ap (hdV (tlV (tlV (fR i.toNat))))) (elV lO (jpF fR i.toNat)),.int .i64 (iv (hdV (tlV (tlV (tlV (fR i.toNat))))))] 54])):=by kernel_rfl
theorem t9 (ct:aX) (i j:Int) (nP:Nat) (fP:Nat->List V) (nR:Nat) (fR:Nat->List V):tr ct x9 (eB i j nP fP nR fR) []=.ret ([(32,.bool (decide (j < (↑nP:Int)))),(6,.int .i64 i),(31,.int .i64 j),(30,.int .i64 (↑nP:Int)),(29,.sl nP (elV lO fP)),(23,.int .i64 i),(22,.int .i64 (↑nR:Int)),(21,.sl nR (elV pk fR))],[]):=by kernel_rfl
theorem t10 (ct:aX) (i j:Int) (nP:Nat) (fP:Nat->List V) (nR:Nat) (fR:Nat->List V):tr ct x10 (eB i j nP fP nR fR) []=.obi (true) (decide (0<=j/\j < (↑nP:Int))) (.ret ([(9,.pl 0 0),(34,.agg [.int .i64 (iv (hdV (fP j.toNat))),.int .i64 (iv (hdV (tlV (fP j.toNat))))]),(33,.pd [.int .i64 (iv (hdV (fP j.toNat))),.int .i64 (iv (hdV (tlV (fP j.toNat))))]),(6,.int .i64 i),(31,.int .i64 j),(30,.int .i64 (↑nP:Int)),(29,.sl nP (elV lO fP)),(23,.int .i64 i),(22,.int .i64 (↑nR:Int)),(21,.sl nR (elV pk fR))],[.cells [.int .i64 (iv (hdV (fP j.toNat))),.int .i64 (iv (hdV (tlV (fP j.toNat))))] 72])):=by kernel_rfl
theorem Ps (ct:aX) (x y:Int) (i j:Int) (nP:Nat) (fP:Nat->List V) (nR:Nat) (fR:Nat->List V):tr ct y4 (eB9 i j nP fP nR fR) (hP x y)=.ret ([(36,.agg [.int .i64 x,.int .i64 y]),(35,.any),(9,.pl 0 0),(6,.int .i64 i),(31,.int .i64 j),(30,.int .i64 (↑nP:Int)),(29,.sl nP (elV lO fP)),(23,.int .i64 i),(22,.int .i64 (↑nR:Int)),(21,.sl nR (elV pk fR))],[.cells [.int .i64 x,.int .i64 y] 72]):=by kernel_rfl
theorem t11b (ct:aX) (x y:Int) (i j:Int) (nP:Nat) (fP:Nat->List V) (nR:Nat) (fR:Nat->List V):tr ct x11b ((37,.any)::eB9 i j nP fP nR fR) (hP x y)=.ret ([(10,.any),(37,.any),(9,.pl 0 0),(6,.int .i64 i),(31,.int .i64 j),(30,.int .i64 (↑nP:Int)),(29,.sl nP (elV lO fP)),(23,.int .i64 i),(22,.int .i64 (↑nR:Int)),(21,.sl nR (elV pk fR))],[.cells [.int .i64 x,.int .i64 y] 72]):=by kernel_rfl
theorem t12 (ct:aX) (x y:Int) (l:List Nat) (i j:Int) (nP:Nat) (fP:Nat->List V) (nR:Nat) (fR:Nat->List V):tr ct x12 (GL l i j nP fP nR fR) (hP2 x y l)=.obi (!(↑l.length:Int) == 0) (!(↑l.length:Int) == 0) (.obi (!(↑l.length:Int) == 0) (!(↑l.length:Int) == 0) (.obi (!(↑l.length:Int) == 0) (!(↑l.length:Int) == 0) (.obi (!(↑l.length:Int) == 0) (!(↑l.length:Int) == 0) (.obi (!(↑l.length:Int) == 0) (decide (0<=IntKind.i64.wrap ((↑l.length:Int) - 1)/\IntKind.i64.wrap ((↑l.length:Int) - 1) < (↑l.length:Int)/\l.length<=l.length)) (.obi (!(↑l.length:Int) == 0) (!(↑l.length:Int) == 0) (.obi (!(↑l.length:Int) == 0) (decide ((IntKind.i64.wrap ((↑l.length:Int) - 1)).toNat < l.length)) (.obi (!(↑l.length:Int) == 0) (!(↑l.length:Int) == 0) (.obi (!(↑l.length:Int) == 0) (!(↑l.length:Int) == 0) (.obi (!(↑l.length:Int) == 0) (!(↑l.length:Int) == 0) (.ret ([(50,.bool (bif (↑l.length:Int) == 0 then true else (↑(l.getD (IntKind.i64.wrap ((↑l.length:Int) - 1)).toNat 0):Int) != i)),(49,.gd (!(↑l.length:Int) == 0) (.bool ((↑(l.getD (IntKind.i64.wrap ((↑l.length:Int) - 1)).toNat 0):Int) != i))),(48,.gd (!(↑l.length:Int) == 0) (.int .i64 i)),(47,.gd (!(↑l.length:Int) == 0) (.int .i64 (↑(l.getD (IntKind.i64.wrap ((↑l.length:Int) - 1)).toNat 0):Int))),(46,.gd (!(↑l.length:Int) == 0) (V.pe 1 (IntKind.i64.wrap ((↑l.length:Int) - 1)).toNat 0)),(45,.gd (!(↑l.length:Int) == 0) (.int .i64 (IntKind.i64.wrap ((↑l.length:Int) - 1)))),(44,.gd (!(↑l.length:Int) == 0) (.int .i64 (↑l.length:Int))),(43,.gd (!(↑l.length:Int) == 0) (.gs 1 l.length)),(42,.gd (!(↑l.length:Int) == 0) (.gs 1 l.length)),(41,.bool ((↑l.length:Int) == 0)),(40,.bool ((↑l.length:Int) == 0)),(39,.int .i64 (↑l.length:Int)),(38,.gs 1 l.length),(10,.gs 1 l.length),(9,.pl 0 0),(6,.int .i64 i),(31,.int .i64 j),(30,.int .i64 (↑nP:Int)),(29,.sl nP (elV lO fP)),(23,.int .i64 i),(22,.int .i64 (↑nR:Int)),(21,.sl nR (elV pk fR))],[.cells [.int .i64 x,.int .i64 y] 72,.gl 1 l.length (fun i=>[.int .i64 (↑(l.getD i 0):Int)]) 3]))))))))))):=by kernel_rfl
theorem t13 (ct:aX) (x y:Int) (l:List Nat) (i j:Int) (nP:Nat) (fP:Nat->List V) (nR:Nat) (fR:Nat->List V):trD ct BA (GL l i j nP fP nR fR) (hP2 x y l)=.ob (true) (.ob (decide (l.length<=l.length/\(l.length+1) * 8<=140737488355328) && !Nat.beq 8 0) (.ret ([(56,.gs 3 (l.length+1)),(55,V.ss 2 0 1 1),(54,.int .i64 i),(53,.gs 1 l.length),(52,.agg [.int .i64 x,.int .i64 y]),(51,.any),(10,.gs 1 l.length),(9,.pl 0 0),(6,.int .i64 i),(31,.int .i64 j),(30,.int .i64 (↑nP:Int)),(29,.sl nP (elV lO fP)),(23,.int .i64 i),(22,.int .i64 (↑nR:Int)),(21,.sl nR (elV pk fR))],[.cells [.int .i64 x,.int .i64 y] 72,O.hid,.cells [.int .i64 i] 3,.gl 1 (l.length+1) (bb l.length (fun i=>[.int .i64 (↑(l.getD i 0):Int)]) fun x=>[.int .i64 i]) 3]))):=by kernel_rfl
theorem t14 (ct:aX) (i j:Int) (nP:Nat) (fP:Nat->List V) (nR:Nat) (fR:Nat->List V):tr ct x14 (eB i j nP fP nR fR) []=.ret ([(31,.int .i64 (IntKind.i64.wrap (j+1))),(57,.int .i64 (IntKind.i64.wrap (j+1))),(6,.int .i64 i),(31,.int .i64 j),(30,.int .i64 (↑nP:Int)),(29,.sl nP (elV lO fP)),(23,.int .i64 i),(22,.int .i64 (↑nR:Int)),(21,.sl nR (elV pk fR))],[]):=by kernel_rfl
theorem t15 (ct:aX) (i:Int) (nR:Nat) (fR:Nat->List V):tr ct x15 (eA i nR fR) []=.ret ([(23,.int .i64 (IntKind.i64.wrap (i+1))),(58,.int .i64 (IntKind.i64.wrap (i+1))),(23,.int .i64 i),(22,.int .i64 (↑nR:Int)),(21,.sl nR (elV pk fR))],[]):=by kernel_rfl
def kC (e:Env):Env->Prop
 | []=>True
 | (s,v)::l=>cH e s=v/\kC e l
theorem xj {e:Env}:∀ {e':Env},kC e e'->∀ d,cH e' d=.any ∨ cH e' d=cH e d
 | [],_,d=>.inl rfl
 | (s,v)::l,h,d=>by
   rw [eJ]
   split
   ·rename_i hd; rw [hd]; exact .inr h.1.symm
   ·exact xj h.2 d
theorem F6 {G:List (Nat × Value)} {o:SOp} {p:Nat × Value} (h:p ∈ G):p ∈ mvG G o:=by
 rcases j7 G o with e | ⟨_,_,_,_,_,_,_,e⟩
 ·rw [e]; exact h
 ·rw [e]; exact List.mem_cons_of_mem _ h
theorem sO {p:Nat × Value}:∀ {xs:List SOp} {G:List (Nat × Value)},p ∈ G->p ∈ gU G xs
 | [],_,h=>h
 | o::l,G,h=>sO (xs:=l) (F6 h)
theorem aK {a:Act} {d:Nat} {v:Value} (h:a.tmps[d]? = some v):a.eval (.tmp d)=v:=by
 simp [Act.eval,Array.getD_eq_getD_getElem?,h]
theorem CJ {o:Oper} {t:TypeId} {x y:Operand} {b:Bool} (ho:o.op=.lookup t x y b) (ro:Option Nat) (ρ:Operand->Value):o.semAt ro ρ=(do pure (.value (← Instr.lookup t (ρ x) (ρ y) b))):=by
 rw [Oper.semAt_eq _ _ _ (fun c h=>by rw [ho] at h; cases h)]
 unfold execOp
 rw [ho]
theorem EG {o:Oper} {t:TypeId} {x y z:Operand} (ho:o.op=.mapUpdate t x y z) (ro:Option Nat) (ρ:Operand->Value):o.semAt ro ρ=(do Instr.mapUpdate t (ρ x) (ρ y) (ρ z); pure .skip):=by
 rw [Oper.semAt_eq _ _ _ (fun c h=>by rw [ho] at h; cases h)]
 unfold execOp
 rw [ho]
noncomputable def oLk:Oper:=(jL[2]?).getD default
theorem vb:jL[2]? = some oLk/\oLk.guard=none/\oLk.dst=some 37/\oLk.op=.lookup 152 (.tmp 35) (.tmp 36) false:=⟨by kernel_rfl,by kernel_rfl,by kernel_rfl,by kernel_rfl⟩
noncomputable def oUp:Oper:=(jy[6]?).getD default
theorem vu:jy[6]? = some oUp/\oUp.guard=none/\oUp.dst=none/\oUp.op=.mapUpdate 152 (.tmp 51) (.tmp 52) (.tmp 56):=⟨by kernel_rfl,by kernel_rfl,by kernel_rfl,by kernel_rfl⟩
theorem Oj:bg Tryz.prog eqs jo6 jo6.toList=some x6/\bQ 81 x6=true:=⟨by kernel_rfl,by kernel_rfl⟩
theorem Py:bg Tryz.prog eqs jo7 jo7.toList=some x7/\bQ 81 x7=true:=⟨by kernel_rfl,by kernel_rfl⟩
theorem Q7:bg Tryz.prog eqs jo8 jo8.toList=some x8/\bQ 81 x8=true:=⟨by kernel_rfl,by kernel_rfl⟩
theorem MD:bg Tryz.prog eqs jo9 jo9.toList=some x9/\bQ 81 x9=true:=⟨by kernel_rfl,by kernel_rfl⟩
theorem LJ:bg Tryz.prog eqs Et Et.toList=some x10/\bQ 81 x10=true:=⟨by kernel_rfl,by kernel_rfl⟩
theorem CH:bg Tryz.prog eqs jL (jL.toList.take 2)=some y4/\bQ 81 y4=true:=⟨by kernel_rfl,by kernel_rfl⟩
theorem DB:bg Tryz.prog eqs jL (jL.toList.drop 3)=some x11b/\bQ 81 x11b=true:=⟨by kernel_rfl,by kernel_rfl⟩
theorem OP:bg Tryz.prog eqs CW CW.toList=some x12/\bQ 81 x12=true:=⟨by kernel_rfl,by kernel_rfl⟩
theorem OI:bg Tryz.prog eqs rW rW.toList=some x14/\bQ 81 x14=true:=⟨by kernel_rfl,by kernel_rfl⟩
theorem MG:bg Tryz.prog eqs BB BB.toList=some x15/\bQ 81 x15=true:=⟨by kernel_rfl,by kernel_rfl⟩
theorem NQ:eD Tryz.prog eqs gO=some BA/\pU 81 BA=true:=⟨by kernel_rfl,by kernel_rfl⟩
theorem Md (m:Value):okG [(5,m)] x6=true:=by kernel_rfl
theorem P4 (m:Value):okG [(5,m)] x7=true:=by kernel_rfl
theorem Pv (m:Value):okG [(5,m)] x8=true:=by kernel_rfl
theorem M3 (m:Value):okG [(5,m)] x9=true:=by kernel_rfl
theorem Ls (m:Value):okG [(5,m)] x10=true:=by kernel_rfl
theorem IZ (m:Value):okG [(5,m)] y4=true:=by kernel_rfl
theorem Ja (v m:Value):okG [(37,v),(5,m)] x11b=true:=by kernel_rfl
theorem Mn (m:Value):okG [(5,m)] x12=true:=by kernel_rfl
theorem N2 (m:Value):okG [(5,m)] x14=true:=by kernel_rfl
theorem N5 (m:Value):okG [(5,m)] x15=true:=by kernel_rfl
theorem QV (m:Value):okG [(5,m)] (BA.map (·.o))=true:=by kernel_rfl
theorem Rq (m:Value):gU [(5,m)] (BA.map (·.o))=[(51,m),(5,m)]:=by kernel_rfl
theorem Lu (m:Value):gU [(5,m)] y4=[(35,m),(5,m)]:=by kernel_rfl
theorem KU (v m:Value):gU [(37,v),(5,m)] x11b=[(10,v),(37,v),(5,m)]:=by kernel_rfl
theorem IB {l:List Nat} {i:Nat} (hl:l.length<=1000000):(bif (l.length:Int) == 0 then true else ((l.getD (IntKind.i64.wrap ((l.length:Int) - 1)).toNat 0:Nat):Int) != (i:Int))=decide (l=[] ∨ l.getLast? ≠ some i):=by
 by_cases h0:l=[]
 ·subst h0; simp
 ·have hp:=List.length_pos_iff.2 h0
  have e0:((l.length:Int) == 0)=false:=by simpa using h0
  rw [e0,cond_false,av (by omega) (by omega)]
  have e1:((l.length:Int) - 1).toNat=l.length - 1:=by omega
  rw [e1,List.getLast?_eq_getElem?]
  have e2:l[l.length - 1]? = some (l.getD (l.length - 1) 0):=by
   simp only [List.getD]
   rw [List.getElem?_eq_getElem (by omega)]; rfl
  rw [e2,Bool.eq_iff_iff]
  simp only [bne_iff_ne,ne_eq,Int.natCast_inj,decide_eq_true_eq,h0,false_or,Option.some.injEq]
theorem EC {n:Nat} {f g:Nat->List V} {i:Nat} (h:i < n):bb n f g i=f i:=by
 unfold bb; rw [show Nat.blt i n=true from Nat.ble_eq_true_of_le h]; rfl
theorem Ep {n:Nat} {f g:Nat->List V} {i:Nat} (h:n<=i):bb n f g i=g (i - n):=by
 unfold bb
 have hb:Nat.blt i n=false:=by
  cases hb:Nat.blt i n with
  | false=>rfl
  | true=>have:=Nat.le_of_ble_eq_true hb; omega
 rw [hb]; rfl
section
variable {B:bm} {N:Nat} {e:Env} {h:List O} {G:List (Nat × Value)} {Fr:Nat->Prop} {Pn:List (Nat × Nat × Nat)} {a:Act} {w:World}
theorem VX.cut (hs:VX B N e h G Fr Pn a w) {e':Env} (hc:kC e e'):VX B N e' h G Fr Pn a w:=hs.env (xj hc)
theorem VX.forget (hs:VX B N e h G Fr Pn a w) {e':Env} (he:kZ [] e e'):VX B N e' [] G Fr [] a w:=hs.sub (nb:=0) fun w0=>eq.ren w0 [] rfl rfl rfl he trivial
end
section
variable {ct:aX} (hT:aW Tryz.prog eqs its ct) {B:bm} {F:Fence} {n:Nat} {Q:Exit->Act->World->Prop} {a:Act} {w:World} {G:List (Nat × Value)} {Fr:Nat->Prop} {Pn:List (Nat × Nat × Nat)} {r:Nat}
include hT
theorem gx (hF:Go.Sx.Open F) {id:Nat} {ops:Array Oper} {xs:List SOp} {e e':Env} {h h':List O} (hc:bg Tryz.prog eqs ops ops.toList=some xs/\bQ 81 xs=true) (hk:okG G xs=true) (hs:VX B 81 e h G Fr Pn a w) {t:T (Env × List O)} (ht:tr ct xs e h=t)
 (hv:sat (bK B.w0 (SV ct)) t (fun s=>kC s.1 e'/\s.2=h')) (hQ:∀ a' w',VX B 81 e' h' G Fr Pn a' w'->Kp Fr w w'->Q .normal a' w'):(Code.region id ops false).wpIn F n Tryz.prog Q a w:=by
 refine wpIn_region ?_
 subst ht
 have:=Eg hT hF (n:=n) (ops:=ops) (Q:=Q) (rest:=[]) (l:=ops.toList) (k:=0) (Qv:=fun e1 h1=>kC e1 e'/\h1=h') (by simp) hc.1 hc.2 hk hs hv (fun a' w' e1 h1 ⟨g1,g2⟩ g3 g4=>by subst g2; simpa [wpOpsIn] using hQ a' w' ((g3.cut g1).drop fun p hp=>sO hp) g4)
 rw [List.append_nil] at this
 rwa [List.range_eq_range',← Array.length_toList]
theorem Jw (hF:Go.Sx.Open F) (hB:∀ b,¬ B.own b) {i j nP nR:Nat} {fP fR:Nat->List V} {K:Act->World->Prop} {p:Pt} (hj:j < nP) (hjm:j < 1000000) (hp:p=(jpX fP j,jpY fP j)) {E:Es} {M:Mp} (hs:VX B 81 (eB i j nP fP nR fR) [] [(5,.map (some r))] (FrS E bU) [] a w) (hm:MQ B r E M bU w) (hl:(bp M p).length<=1000000)
 (hQ:∀ a' w' E',VX B 81 (eB i ((j+1:Nat):Int) nP fP nR fR) [] [(5,.map (some r))] (FrS E' bU) [] a' w'->MQ B r E' (kO i M p) bU w'->K a' w'):Dy.wpIn F n Tryz.prog (Exit.then K Q) a w:=by
 unfold Dy
 refine wpIn_seq (gx hT hF (e':=(32,.bool true)::eB i j nP fP nR fR) (h':=[]) MD (M3 _) hs (t9 ct i j nP fP nR fR) ⟨And.intro (by show V.bool (decide ((j:Int) < nP))=_; rw [decide_eq_true (by omega)]) (And.intro rfl (And.intro rfl (And.intro rfl (And.intro rfl (And.intro rfl (And.intro rfl (And.intro rfl trivial))))))),rfl⟩ fun a1 w1 h1 k1=>?_)
 have m1:=hm.keep k1
 refine wpIn_seq (wpIn_cond_true (aK (h1.at_bool (d:=32) (.inl rfl) (by decide))) (wpIn_skip ?_))
 have h1:=h1.cut (e':=eB i j nP fP nR fR) (And.intro rfl (And.intro rfl (And.intro rfl (And.intro rfl (And.intro rfl (And.intro rfl (And.intro rfl trivial)))))))
 refine wpIn_seq (wpIn_block (wpIn_seq (gx hT hF (e':=eB9 i j nP fP nR fR) (h':=hP p.1 p.2) LJ (Ls _) h1 (t10 ct i j nP fP nR fR) ⟨fun _=>decide_eq_true (by omega),(And.intro rfl (And.intro rfl (And.intro rfl (And.intro rfl (And.intro rfl (And.intro rfl (And.intro rfl (And.intro rfl trivial)))))))),by rw [hp,jpX,jpY]; rfl⟩ fun a2 w2 h2 k2=>?_)))
 have m2:=m1.keep k2
 refine wpIn_seq (wpIn_region ?_)
 have e11:List.range jL.size=List.range' 0 (jL.toList.take 2).length++[2,3]:=by kernel_rfl
 rw [e11]
 have l11:(jL.toList.take 2).length=2:=by kernel_rfl
 refine Eg hT hF (l:=jL.toList.take 2) (k:=0) (xs:=y4) (Qv:=fun e1 h1=>kC e1 ((36,.agg [.int .i64 p.1,.int .i64 p.2])::eB9 i j nP fP nR fR)/\h1=hP p.1 p.2) (fun j hj=>by rw [List.getElem?_take,if_pos (by omega)]; simp) CH.1 CH.2 (IZ _) h2 (show sat _ (tr ct y4 _ _) _ by rw [Ps]; exact ⟨(And.intro rfl (And.intro rfl (And.intro rfl (And.intro rfl (And.intro rfl (And.intro rfl (And.intro rfl (And.intro rfl (And.intro rfl trivial))))))))),rfl⟩) fun a3 w3 e3 g3 ⟨q3,q3'⟩ h3 k3=>?_
 subst q3'
 have h3:=h3.cut q3
 rw [Lu] at h3
 have m3:=m2.keep k3
 have hget:=m3.get (p:=p)
 refine co (v:=jp E p) (w':=w3) hF vb.1 vb.2.1 ?_ ?_
 ·rw [CJ vb.2.2.2,aK (h3.at_raw (v:=.map (some r)) (by simp)),aK (h3.at_key rfl (by decide))]
  simp only [Sem.run_bind]
  have:=Eu (p:=p) m3.hp
  rw [show kp p.1 p.2=kpP p from rfl,this]
  rfl
 rw [vb.2.2.1]
 have h4:=(((h3.cut (e':=eB9 i j nP fP nR fR) (And.intro rfl (And.intro rfl (And.intro rfl (And.intro rfl (And.intro rfl (And.intro rfl (And.intro rfl (And.intro rfl trivial))))))))).drop (G':=[(5,.map (some r))]) (by simp)).raw (d:=37) (by decide) (bh rfl) (jp E p))
 have e12:[3]=List.range' 3 (jL.toList.drop 3).length++[]:=by kernel_rfl
 rw [e12]
 refine Eg hT hF (l:=jL.toList.drop 3) (k:=3) (xs:=x11b) (Qv:=fun e1 h1=>kC e1 (eB9 i j nP fP nR fR)/\h1=hP p.1 p.2) (by intro j hj; simp) DB.1 DB.2 (Ja _ _) h4 (show sat _ (tr ct x11b _ _) _ by rw [t11b]; exact ⟨(And.intro rfl (And.intro rfl (And.intro rfl (And.intro rfl (And.intro rfl (And.intro rfl (And.intro rfl (And.intro rfl trivial)))))))),rfl⟩) fun a4 w4 e4 g4 ⟨q4,q4'⟩ h5 k4=>?_
 subst q4'
 have h5:=h5.cut q4
 rw [KU] at h5
 have m4:=m3.keep k4
 have hget:=m4.get (p:=p)
 have m4':=m4.less (S':=(· ≠ p)) fun _ _=>trivial
 -- the list becomes the evaluator's
 have hpin:∃ Pn:List (Nat × Nat × Nat),(∀ x ∈ Pn,x.1=1/\jp E p=.slice (some ⟨x.2.1,0,none⟩) (bp M p).length x.2.2)/\(bp M p ≠ []->∃ x ∈ Pn,x.1=1):=by
  rcases hget.1 with ⟨e1,e2⟩ | ⟨q,c,vs,e1,_⟩
  ·exact ⟨[],(fun x hx=>by cases hx),fun hn=>(hn e2).elim⟩
  ·exact ⟨[(1,q,c)],(fun x hx=>by rw [List.mem_singleton.1 hx]; exact ⟨rfl,e1⟩),fun _=>⟨_,List.mem_singleton.2 rfl,rfl⟩⟩
 obtain ⟨Pn,pin1,pin2⟩:=hpin
 have h6:=h5.adopt (d:=10) (by decide) (List.mem_cons_self ..) hget.1 (by omega) hget.2.1 (G':=[(5,.map (some r))]) (by simp) (bh rfl) (Fr':=FrS E (· ≠ p)) hget.2.2 (Pn':=Pn) pin1
 have hcond:=IB (l:=bp M p) (i:=i) hl
 show (Code.seq _ _).wpIn F n Tryz.prog _ a4 w4
 refine wpIn_seq (gx hT hF (e':=(50,.bool (decide (bp M p=[] ∨ (bp M p).getLast? ≠ some i)))::GL (bp M p) i j nP fP nR fR) (h':=hP2 p.1 p.2 (bp M p)) OP (Mn _) h6 (t12 ct p.1 p.2 (bp M p) i j nP fP nR fR) ?_ fun a5 w5 h7 k5=>?_)
 ·have hw:¬ ((!((bp M p).length:Int) == 0)=true) ∨ (IntKind.i64.wrap (((bp M p).length:Int) - 1)=((bp M p).length:Int) - 1/\0 < (bp M p).length):=by
   by_cases h0:(bp M p).length=0
   ·exact .inl (by simp [h0])
   ·exact .inr ⟨av (by omega) (by omega),by omega⟩
  refine ⟨id,id,id,id,fun e=>decide_eq_true ?_,id,fun e=>decide_eq_true ?_,id,id,id,And.intro (congrArg V.bool hcond) (And.intro rfl (And.intro rfl (And.intro rfl (And.intro rfl (And.intro rfl (And.intro rfl (And.intro rfl (And.intro rfl (And.intro rfl trivial))))))))),rfl⟩
  ·rcases hw with hw | ⟨hw,h0⟩
   ·exact (hw e).elim
   ·rw [hw]; omega
  ·rcases hw with hw | ⟨hw,h0⟩
   ·exact (hw e).elim
   ·rw [hw]; omega
 have m5:=m4'.keep k5
 have h8:=h7.cut (e':=GL (bp M p) i j nP fP nR fR) (And.intro rfl (And.intro rfl (And.intro rfl (And.intro rfl (And.intro rfl (And.intro rfl (And.intro rfl (And.intro rfl (And.intro rfl trivial)))))))))
 -- behind it
 have tail:∀ a6 w6 E',VX B 81 (eB i j nP fP nR fR) [] [(5,.map (some r))] (FrS E' bU) [] a6 w6->MQ B r E' (kO i M p) bU w6->(Code.region 14 rW false).wpIn F n Tryz.prog (Exit.then K Q) a6 w6:=fun a6 w6 E' h9 m6 =>
  gx hT hF (e':=eB i ((j+1:Nat):Int) nP fP nR fR) (h':=[]) OI (N2 _) h9 (t14 ct i j nP fP nR fR) ⟨And.intro rfl (And.intro (by show V.int .i64 (IntKind.i64.wrap ((j:Int)+1))=_; rw [av (by omega) (by omega)]; rfl) (And.intro rfl (And.intro rfl (And.intro rfl (And.intro rfl (And.intro rfl trivial)))))),rfl⟩ fun a7 w7 h10 k7=>hQ a7 w7 E' h10 (m6.keep k7)
 by_cases hc:bp M p=[] ∨ (bp M p).getLast? ≠ some i
 ·rw [decide_eq_true hc] at h7
  refine wpIn_cond_true (aK (h7.at_bool (d:=50) (.inl rfl) (by decide))) ?_
  obtain ⟨d1,d2⟩:=Ns hT hF (n:=n) (Q:=Ic fun a w=>wpOpIn F n Tryz.prog jy (Exit.inBlock 3 (Exit.then (Code.wpIn F n Tryz.prog (Code.region 14 rW false) (Exit.then K Q)) (Exit.then K Q))) 6 (fun a w=>Exit.inBlock 3 (Exit.then (Code.wpIn F n Tryz.prog (Code.region 14 rW false) (Exit.then K Q)) (Exit.then K Q)) .normal a w) a w)
   (Qv:=fun e1 h1=>kC e1 ((56,.gs 3 ((bp M p).length+1))::(52,.agg [.int .i64 p.1,.int .i64 p.2])::eB i j nP fP nR fR)/\h1=[O.cells [.int .i64 p.1,.int .i64 p.2] 72,O.hid,O.cells [.int .i64 (i:Int)] 3,O.gl 1 ((bp M p).length+1) (bb (bp M p).length (lF (bp M p)) fun _=>[.int .i64 (i:Int)]) 3]) NQ.1 NQ.2 (QV _) h8
   (show sat _ (trD ct BA _ _) _ by rw [t13]; exact ⟨rfl,by rw [decide_eq_true (by omega)]; rfl,(And.intro rfl (And.intro rfl (And.intro rfl (And.intro rfl (And.intro rfl (And.intro rfl (And.intro rfl (And.intro rfl (And.intro rfl trivial))))))))),rfl⟩) (fun a6 w6 e6 g6 ⟨q6,q6'⟩ h9 k6=>by
     subst q6'
     have h9:=h9.cut q6
     rw [Rq] at h9
     have m6:=m5.keep k6
     have hln:(bp M p++[i]).length=(bp M p).length+1:=by simp
     obtain ⟨v,q,rq,bq,fq,_,h10⟩:=h9.release hB (d:=56) (by decide) (k:=3) rfl rfl (Nat.le_refl _) hln (by simp) (fun x hx=>by
      by_cases hlt:x < (bp M p).length
      ·rw [EC hlt]
       simp only [lF,List.getD,List.getElem?_append_left hlt]
      ·have e1:x=(bp M p).length:=by omega
       subst e1
       rw [Ep (by omega)]
       simp [lF,List.getD]) (e1:=(52,.agg [.int .i64 p.1,.int .i64 p.2])::eB i j nP fP nR fR) (And.intro (And.intro (And.intro rfl rfl) (And.intro (And.intro rfl rfl) trivial)) (And.intro (And.intro rfl rfl) (And.intro (And.intro rfl rfl) (And.intro (And.intro rfl rfl) (And.intro (And.intro rfl rfl) (And.intro (And.intro rfl rfl) (And.intro (And.intro rfl rfl) (And.intro (And.intro rfl rfl) trivial)))))))) rfl (G':=[(51,.map (some r)),(5,.map (some r))]) (fun p hp=>hp) (bh rfl)
     show wpOpIn F n Tryz.prog jy _ 6 _ a6 w6
     unfold wpOpIn
     rw [vu.1]
     simp only
     rw [if_pos (oC vu.2.1 _)]
     refine ⟨fun f _=>hF.fn f,?_⟩
     rw [EG vu.2.2.2,aK (h10.at_raw (d:=51) (v:=.map (some r)) (by simp)),aK (h10.at_key (d:=52) rfl (by decide)),aK (h10.at_raw (d:=56) (v:=v) (by simp))]
     simp only [Sem.run_bind]
     rw [show kp p.1 p.2=kpP p from rfl,Gh m6.hp]
     show Code.wpIn F n Tryz.prog (Code.region 14 rW false) (Exit.then K Q) (a6.put oUp.dst undef) _
     rw [vu.2.2.1]
     have hst:kO i M p=lc M p (bp M p++[i]):=by unfold kO; rw [if_pos hc]
     refine tail _ _ (jv E p v) ?_ (by rw [hst]; exact m6.set (by simp) rq bq fq)
     refine VX.less (Fr:=fun x=>FrS E (· ≠ p) x ∨ x=q) ?_ (Gb m6.nd bq)
     exact ((h10.cut (e':=eB i j nP fP nR fR) (And.intro rfl (And.intro rfl (And.intro rfl (And.intro rfl (And.intro rfl (And.intro rfl (And.intro rfl trivial)))))))).drop (G':=[(5,.map (some r))]) (by simp)).putObj m6.hp rfl m6.zf m6.z0 (fun x hx=>by
      rcases hx with ⟨y,y1,y2,y3⟩ | rfl
      ·exact m6.rne y1 y2 y3
      ·intro e1
       subst e1
       obtain ⟨cs,hcs⟩:=rq.blk bq
       rw [m6.hp] at hcs; cases hcs) _)
  exact wpIn_region_any d1 (N4 6 [false,false,false,false,false,false] a5 _ rfl d2)
 ·rw [decide_eq_false hc] at h7
  refine wpIn_cond_false (aK (h7.at_bool (d:=50) (.inl rfl) (by decide))) (wpIn_skip ?_)
  have hn:bp M p ≠ []:=fun e=>hc (.inl e)
  obtain ⟨v,q,rq,bq,fq,hv,h10⟩:=h8.release hB (d:=10) (by decide) (k:=1) rfl rfl (Nat.le_refl _) rfl hn (fun x hx=>rfl) (e1:=eB i j nP fP nR fR) (And.intro (And.intro rfl rfl) (And.intro (And.intro rfl rfl) (And.intro (And.intro rfl rfl) (And.intro (And.intro rfl rfl) (And.intro (And.intro rfl rfl) (And.intro (And.intro rfl rfl) (And.intro (And.intro rfl rfl) trivial))))))) rfl (G':=[(5,.map (some r))]) (fun p hp=>hp) (bh rfl)
  obtain ⟨x,hx1,hx2⟩:=pin2 hn
  have hve:v=jp E p:=(hv x hx1 hx2).trans (pin1 x hx1).2.symm
  subst hve
  have hst:kO i M p=M:=by unfold kO; rw [if_neg hc]
  show Code.wpIn F n Tryz.prog (Code.region 14 rW false) (Exit.then K Q) a5 w5
  exact tail _ _ E (VX.less (Fr:=fun x=>FrS E (· ≠ p) x ∨ x=q) (h10.drop (G':=[(5,.map (some r))]) (by simp)) (D7 m5.nd bq)) (by rw [hst]; exact m5.back rq bq fq)
end
end Go.Dx
namespace Go.Jn
theorem EQ (P:List (List Pt)) (p:Pt):(at' P p).length<=P.length:=by
 unfold at'
 have:=List.length_filter_le (fun i=>decide (p ∈ P.getD i [])) (List.range P.length)
 simpa using this
theorem Bo (P:List (List Pt)) {i:Nat} (hi:i < P.length):mapJ (P.take (i+1))=jk i (mapJ (P.take i)) (P.getD i []):=by
 have e:P.take (i+1)=P.take i++[P.getD i []]:=by
  rw [List.take_add_one]
  simp [List.getD,List.getElem?_eq_getElem hi]
 unfold mapJ
 rw [e,tf]
 congr 1
 simp; omega
theorem Gd (P:List (List Pt)) {i:Nat} (hi:i < P.length) (j:Nat) (p:Pt):(bp (jk i (mapJ (P.take i)) ((P.getD i []).take j)) p).length<=i+1:=by
 have hQ:(P.take i).length=i:=by simp; omega
 have h0:MI (mapJ (P.take i)) (DD (at' (P.take i)) i []):=by
  have e:DD (at' (P.take i)) i []=at' (P.take i):=by funext p; simp [DD]
  rw [e]; exact l7 _
 have h1:=MI.row (fun p k hk=>by have:=Hd k hk; omega) ((P.getD i []).take j) [] h0
 rw [h1.get p]
 unfold DD
 have h2:=EQ (P.take i) p
 rw [List.length_append]
 split <;> simp <;> omega
theorem yx (i:Nat) (M:Mp) (ps:List Pt) (p:Pt):jk i M (ps++[p])=kO i (jk i M ps) p:=by
 simp [jk]
end Go.Jn
namespace Go.Dx
open Go.Sx Go.Proofs Go.Jn
def cV (n:Nat) (f:Nat->List V):List Pt:=(List.range n).map fun j=>(jpX f j,jpY f j)
def bB (nR:Nat) (fR:Nat->List V):List (List Pt):=(List.range nR).map fun i=>cV (jpL fR i) (jpF fR i)
theorem BM {n:Nat} {f:Nat->List V} {j:Nat} (h:j < n):(cV n f)[j]? = some (jpX f j,jpY f j):=by simp [cV,h]
theorem nG {nR:Nat} {fR:Nat->List V} {i:Nat} (h:i < nR):(bB nR fR).getD i []=cV (jpL fR i) (jpF fR i):=by simp [bB,List.getD,h]
section
variable {ct:aX} (hT:aW Tryz.prog eqs its ct) {B:bm} {F:Fence} {n:Nat} {Q:Exit->Act->World->Prop} {a:Act} {w:World} {r:Nat}
include hT
theorem MC (hF:Go.Sx.Open F) (hB:∀ b,¬ B.own b) {i nP nR:Nat} {fP fR:Nat->List V} (hn:nP<=1000000) {E:Es} {M:Mp} (hs:VX B 81 (eB i (0:Nat) nP fP nR fR) [] [(5,.map (some r))] (FrS E bU) [] a w) (hm:MQ B r E M bU w) (hl:∀ j p,(bp (jk i M ((cV nP fP).take j)) p).length<=1000000)
 (hQ:∀ a' w' E',VX B 81 (eA i nR fR) [] [(5,.map (some r))] (FrS E' bU) [] a' w'->MQ B r E' (jk i M (cV nP fP)) bU w'->Q .normal a' w'):(Code.block 2 (.loop Dy)).wpIn F n Tryz.prog Q a w:=by
 refine wpIn_block (dn (I:=fun k a w=>∃ j E,j<=nP/\k=nP - j/\VX B 81 (eB i j nP fP nR fR) [] [(5,.map (some r))] (FrS E bU) [] a w/\MQ B r E (jk i M ((cV nP fP).take j)) bU w) ⟨nP,0,E,Nat.zero_le _,rfl,hs,hm⟩ ?_)
 rintro k a w ⟨j,E,hj,rfl,hs,hm⟩
 by_cases hlt:j < nP
 ·refine Jw hT hF hB hlt (by omega) rfl hs hm (hl _ _) fun a' w' E' h1 h2=>?_
  refine ⟨nP - (j+1),by omega,j+1,E',hlt,rfl,h1,?_⟩
  have e:(cV nP fP).take (j+1)=(cV nP fP).take j++[(jpX fP j,jpY fP j)]:=by
   rw [List.take_add_one,BM hlt]; rfl
  rw [e,yx]; exact h2
 ·have e:j=nP:=by omega
  subst e
  unfold Dy
  refine wpIn_seq (gx hT hF (e':=(32,.bool false)::eB i j j fP nR fR) (h':=[]) MD (M3 _) hs (t9 ct i j j fP nR fR) ⟨And.intro (by show V.bool (decide ((j:Int) < j))=_; rw [decide_eq_false (by omega)]) (And.intro rfl (And.intro rfl (And.intro rfl (And.intro rfl (And.intro rfl (And.intro rfl (And.intro rfl trivial))))))),rfl⟩ fun a1 w1 h1 k1=>?_)
  refine wpIn_seq (wpIn_cond_false (aK (h1.at_bool (d:=32) (.inl rfl) (by decide))) (wpIn_exit ?_))
  show Exit.inBlock 2 Q (.exit 2) a1 w1
  simp only [Exit.inBlock,if_true]
  have e:(cV j fP).take j=cV j fP:=List.take_of_length_le (by simp [cV])
  rw [e] at hm
  exact hQ a1 w1 E (h1.cut (e':=eA i nR fR) (And.intro rfl (And.intro rfl (And.intro rfl trivial)))) (hm.keep k1)
theorem O8 (hF:Go.Sx.Open F) (hB:∀ b,¬ B.own b) {i nR:Nat} {fR:Nat->List V} {K:Act->World->Prop} (hi:i < nR) (hn:nR<=1000) (hp:jpL fR i<=1000000) {E:Es} (hs:VX B 81 (eA i nR fR) [] [(5,.map (some r))] (FrS E bU) [] a w) (hm:MQ B r E (mapJ ((bB nR fR).take i)) bU w)
 (hQ:∀ a' w' E',VX B 81 (eA ((i+1:Nat):Int) nR fR) [] [(5,.map (some r))] (FrS E' bU) [] a' w'->MQ B r E' (mapJ ((bB nR fR).take (i+1))) bU w'->K a' w'):A2.wpIn F n Tryz.prog (Exit.then K Q) a w:=by
 unfold A2
 refine wpIn_seq (gx hT hF (e':=(24,.bool true)::eA i nR fR) (h':=[]) Oj (Md _) hs (t6 ct i nR fR) ⟨And.intro (by show V.bool (decide ((i:Int) < nR))=_; rw [decide_eq_true (by omega)]) (And.intro rfl (And.intro rfl (And.intro rfl trivial))),rfl⟩ fun a1 w1 h1 k1=>?_)
 have m1:=hm.keep k1
 refine wpIn_seq (wpIn_cond_true (aK (h1.at_bool (d:=24) (.inl rfl) (by decide))) (wpIn_skip ?_))
 refine wpIn_seq (wpIn_block (wpIn_seq (gx hT hF (e':=eA7 i nR fR) (h':=[.cells [.str (sv (hdV (fR i))),.int .i64 (iv (hdV (tlV (fR i)))),.sl (jpL fR i) (elV lO (jpF fR i)),.int .i64 (iv (hdV (tlV (tlV (tlV (fR i))))))] 54]) Py (P4 _) (h1.cut (e':=eA i nR fR) (And.intro rfl (And.intro rfl (And.intro rfl trivial)))) (t7 ct i nR fR) ⟨fun _=>decide_eq_true (by omega),(And.intro rfl (And.intro rfl (And.intro rfl (And.intro rfl (And.intro rfl trivial))))),rfl⟩ fun a2 w2 h2 k2=>?_)))
 have m2:=m1.keep k2
 refine wpIn_seq (gx hT hF (e':=(7,.pl 0 0)::eB i (0:Nat) (jpL fR i) (jpF fR i) nR fR) (h':=[.cells [.str (sv (hdV (fR i))),.int .i64 (iv (hdV (tlV (fR i)))),.sl (jpL fR i) (elV lO (jpF fR i)),.int .i64 (iv (hdV (tlV (tlV (tlV (fR i))))))] 54]) Q7 (Pv _) h2 (t8 ct i nR fR) (fun _=>⟨(And.intro rfl (And.intro rfl (And.intro rfl (And.intro rfl (And.intro rfl (And.intro rfl (And.intro rfl (And.intro rfl trivial)))))))),rfl⟩) fun a3 w3 h3 k3=>?_)
 have m3:=m2.keep k3
 have h4:=h3.forget (e':=eB i (0:Nat) (jpL fR i) (jpF fR i) nR fR) (And.intro (And.intro rfl rfl) (And.intro (And.intro rfl rfl) (And.intro (And.intro rfl rfl) (And.intro (And.intro rfl rfl) (And.intro (And.intro rfl rfl) (And.intro (And.intro rfl rfl) (And.intro (And.intro rfl rfl) trivial)))))))
 have hlen:i < (bB nR fR).length:=by simp [bB]; exact hi
 refine MC hT hF hB hp h4 m3 (fun j p=>?_) fun a4 w4 E' h5 m4=>?_
 ·have:=Gd (bB nR fR) hlen j p
  rw [nG hi] at this
  omega
 rw [← nG hi,← Bo _ hlen] at m4
 show Code.wpIn F n Tryz.prog (Code.region 15 BB false) (Exit.then K Q) a4 w4
 exact gx hT hF (e':=eA ((i+1:Nat):Int) nR fR) (h':=[]) MG (N5 _) h5 (t15 ct i nR fR) ⟨And.intro (by show V.int .i64 (IntKind.i64.wrap ((i:Int)+1))=_; rw [av (by omega) (by omega)]; rfl) (And.intro rfl (And.intro rfl trivial)),rfl⟩ fun a5 w5 h6 k5=>hQ a5 w5 E' h6 (m4.keep k5)
theorem KO (hF:Go.Sx.Open F) (hB:∀ b,¬ B.own b) {nR:Nat} {fR:Nat->List V} (hn:nR<=1000) (hp:∀ i,i < nR->jpL fR i<=1000000) (hs:VX B 81 (eA (0:Nat) nR fR) [] [(5,.map (some r))] (FrS [] bU) [] a w) (hm:MQ B r [] [] bU w)
 (hQ:∀ a' w' E',VX B 81 [] [] [(5,.map (some r))] (FrS E' bU) [] a' w'->MQ B r E' (mapJ (bB nR fR)) bU w'->Q .normal a' w'):(Code.block 0 (.loop A2)).wpIn F n Tryz.prog Q a w:=by
 refine wpIn_block (dn (I:=fun k a w=>∃ i E,i<=nR/\k=nR - i/\VX B 81 (eA i nR fR) [] [(5,.map (some r))] (FrS E bU) [] a w/\MQ B r E (mapJ ((bB nR fR).take i)) bU w) ⟨nR,0,[],Nat.zero_le _,rfl,hs,hm⟩ ?_)
 rintro k a w ⟨i,E,hi,rfl,hs,hm⟩
 by_cases hlt:i < nR
 ·exact O8 hT hF hB hlt hn (hp i hlt) hs hm fun a' w' E' h1 h2=>⟨nR - (i+1),by omega,i+1,E',hlt,rfl,h1,h2⟩
 ·have e:i=nR:=by omega
  subst e
  unfold A2
  refine wpIn_seq (gx hT hF (e':=[(24,.bool false)]) (h':=[]) Oj (Md _) hs (t6 ct i i fR) ⟨And.intro (by show V.bool (decide ((i:Int) < i))=_; rw [decide_eq_false (by omega)]) trivial,rfl⟩ fun a1 w1 h1 k1=>?_)
  refine wpIn_seq (wpIn_cond_false (aK (h1.at_bool (d:=24) (.inl rfl) (by decide))) (wpIn_exit ?_))
  show Exit.inBlock 0 Q (.exit 0) a1 w1
  simp only [Exit.inBlock,if_true]
  have e:(bB i fR).take i=bB i fR:=List.take_of_length_le (by simp [bB])
  rw [e] at hm
  exact hQ a1 w1 E (h1.cut (e':=[]) trivial) (hm.keep k1)
end
noncomputable def x19b:=xsO (fY.toList.drop 3) fY
noncomputable def yt:=xsO (en.toList.take 6) en
theorem t19b (ct:aX) (x y:Int):tr ct x19b [(64,.agg [.int .i64 x,.int .i64 y])] []=.ret ([(13,.any),(12,.pl 0 0),(64,.agg [.int .i64 x,.int .i64 y])],[.cells [.int .i64 x,.int .i64 y] 72]):=by kernel_rfl
theorem Q3 (ct:aX) (x y:Int):tr ct yt [(12,.pl 0 0)] (hP x y)=.obi (true) (true) (.obi (true) (true) (.ret ([(74,.any),(73,.int .i64 y),(72,.pl 0 1),(71,.int .i64 x),(70,.pl 0 0),(69,.any),(12,.pl 0 0)],[.cells [.int .i64 x,.int .i64 y] 72]))):=by kernel_rfl
end Go.Dx
namespace Go.Jn
theorem BO {α:Type} (E:List α):(List.range E.length).filterMap (fun b=>E[b]?)=E:=by
 induction E with
 | nil=>rfl
 | cons x E ih =>
   rw [List.length_cons,List.range_succ_eq_map,List.filterMap_cons]
   simp only [List.getElem?_cons_zero,List.filterMap_map,Function.comp_def,List.getElem?_cons_succ]
   rw [ih]
theorem yE {α:Type} (E:List α) (seen:List Nat) (hn:seen.Nodup) (hs:∀ b,b ∈ seen ↔ b < E.length):(seen.filterMap fun b=>E[b]?).Perm E:=by
 have h:seen.Perm (List.range E.length):=(List.perm_ext_iff_of_nodup hn List.nodup_range).2 fun b=>by rw [hs,List.mem_range]
 have:=h.filterMap (fun b=>E[b]?)
 rwa [BO] at this
theorem xi {α:Type} {E:List (Pt × α)} {M:Mp} (hk:E.map (·.1)=M.map (·.1)) (hn:(M.map (·.1)).Nodup):E.map (fun x=>(x.1,bp M x.1))=M:=by
 have h1:E.map (fun x=>(x.1,bp M x.1))=(M.map (·.1)).map fun p=>(p,bp M p):=by rw [← hk]; simp [Function.comp_def]
 rw [h1,List.map_map]
 have:∀ y ∈ M,((fun p=>(p,bp M p)) ∘ fun x:Pt × List Nat=>x.1) y=y:=fun y hy=>by
  have:=((xk hn).1 hy).2
  exact Prod.ext rfl this
 rw [List.map_congr_left this]; simp
theorem Bh {α:Type} {E:List (Pt × α)} {M:Mp} (hk:E.map (·.1)=M.map (·.1)) (hn:(M.map (·.1)).Nodup) {seen:List Nat} (h1:seen.Nodup) (h2:∀ b,b ∈ seen ↔ b < E.length) {A:List (Pt × α)} (hA:A=(seen.filterMap fun b=>E[b]?).filter fun x=>decide (1 < (bp M x.1).length)) :
 (A.map fun x=>(x.1,bp M x.1)).Perm (M.filter fun e=>decide (1 < e.2.length)):=by
 subst hA
 have h3:=((yE E seen h1 h2).filter fun x=>decide (1 < (bp M x.1).length)).map fun x=>(x.1,bp M x.1)
 refine h3.trans ?_
 have h4:=xi hk hn
 have:M.filter (fun e=>decide (1 < e.2.length))=(E.map fun x=>(x.1,bp M x.1)).filter fun e=>decide (1 < e.2.length):=by rw [h4]
 rw [this,List.filter_map]
 exact List.Perm.refl _
end Go.Jn
namespace Go.Dx
open Go.Sx Go.Proofs Go.Jn
open Go.ChangeMaps (setBlock)
section
variable {o:Oper} {t:TypeId} {x y:Operand} {i:Nat} {ro:Option Nat} {ρ:Operand->Value} {w:World}
theorem i4 (ho:o.op=.move x ∨ o.op=.assign x):(o.semAt ro ρ).run Tryz.prog w=.ok (.value (ρ x)) w:=by
 rcases ho with ho | ho
 all_goals
  rw [Oper.semAt_eq _ _ _ (fun c h=>by rw [ho] at h; cases h)]
  unfold execOp
  rw [ho]
  rfl
theorem iZ {s:Sem Value} {v:Value} {w':World} (h:s.run Tryz.prog w=.ok v w'):(do let u ← s; pure (Next.value u):Sem Next).run Tryz.prog w=.ok (.value v) w':=by
 simp only [Sem.run_bind,h,Result.andThen]
 rfl
theorem ve (ho:o.op=.extract x i) {vs:Array Value} {v:Value} (hx:ρ x=.tuple vs) (hv:vs[i]? = some v):(o.semAt ro ρ).run Tryz.prog w=.ok (.value v) w:=by
 rw [Oper.semAt_eq _ _ _ (fun c h=>by rw [ho] at h; cases h)]
 unfold execOp
 rw [ho]
 refine iZ ?_
 rw [hx]
 simp only [Instr.extract,hv]
 rfl
theorem Kb (ho:o.op=.range 152 x) {r clk:Nat} {es:Array MapEntry} (hx:ρ x=.map (some r)) (hb:w.heap[r]? = some (.map es clk)):(o.semAt ro ρ).run Tryz.prog w=.ok (.value (.pointer (some ⟨w.heap.size,0,none⟩))) (w.alloc (.mapIter (some r) clk #[] clk)):=by
 rw [Oper.semAt_eq _ _ _ (fun c h=>by rw [ho] at h; cases h)]
 unfold execOp
 rw [ho]
 refine iZ ?_
 rw [hx]
 simp [Instr.range,am ER,MapKept.run_getObj_map hb,Result.andThen]
theorem DR (ho:o.op=.next x false) {v:Value} {p:Value} {w':World} (hx:ρ x=p) (hr:(Instr.next p false o.type).run Tryz.prog w=.ok v w'):(o.semAt ro ρ).run Tryz.prog w=.ok (.value v) w':=by
 rw [Oper.semAt_eq _ _ _ (fun c h=>by rw [ho] at h; cases h)]
 unfold execOp
 rw [ho]
 refine iZ ?_
 rw [hx]; exact hr
theorem Hm (ho:o.op=.entry x) {v:Value} {p:Value} {w':World} (hx:ρ x=p) (hr:(Instr.entry p).run Tryz.prog w=.ok v w'):(o.semAt ro ρ).run Tryz.prog w=.ok (.value v) w':=by
 rw [Oper.semAt_eq _ _ _ (fun c h=>by rw [ho] at h; cases h)]
 unfold execOp
 rw [ho]
 refine iZ ?_
 rw [hx]; exact hr
theorem IM {s:Operand} (ho:o.op=.call { callee:=.builtin .append,args:=#[s,x],argTypes:=#[83,83] }) {v:Value} {w':World} (hr:(Builtin.append_ #[83,83] o.type #[ρ s,ρ x]).run Tryz.prog w=.ok v w'):(o.semAt ro ρ).run Tryz.prog w=.ok (.value v) w':=by
 rw [Oper.semAt_eq _ _ _ (fun c h=>by rw [ho] at h; cases h)]
 unfold execOp
 simp only [ho,resolve,invoke,builtin,Sem.run_bind,Sem.run_pure,Result.andThen_ok,List.map_toArray,List.map_cons,List.map_nil,hr]
theorem ID {xs:Array (Nat × Operand)} (ho:o.op=.build 87 xs) {v:Value} (hr:(Instr.build 87 (xs.map fun z=>(z.1,ρ z.2))).run Tryz.prog w=.ok v w):(o.semAt ro ρ).run Tryz.prog w=.ok (.value v) w:=by
 rw [Oper.semAt_eq _ _ _ (fun c h=>by rw [ho] at h; cases h)]
 unfold execOp
 rw [ho]
 exact iZ hr
theorem Ix {xs:Array (Nat × Operand)} (ho:o.op=.buildSlice 83 1 xs) {v:Value} {w':World} (hr:(Instr.buildSlice 83 1 (xs.map fun z=>(z.1,ρ z.2))).run Tryz.prog w=.ok v w'):(o.semAt ro ρ).run Tryz.prog w=.ok (.value v) w':=by
 rw [Oper.semAt_eq _ _ _ (fun c h=>by rw [ho] at h; cases h)]
 unfold execOp
 rw [ho]
 exact iZ hr
end
noncomputable def oo (ops:Array Oper) (k:Nat):Oper:=(ops[k]?).getD default
theorem p17:lz[0]? = some (oo lz 0)/\(oo lz 0).guard=none/\(oo lz 0).dst=some 59/\(oo lz 0).op=.move (.tmp 5)/\lz[1]? = some (oo lz 1)/\(oo lz 1).guard=none/\(oo lz 1).dst=some 60/\(oo lz 1).op=.range 152 (.tmp 59):=⟨by kernel_rfl,by kernel_rfl,by kernel_rfl,by kernel_rfl,by kernel_rfl,by kernel_rfl,by kernel_rfl,by kernel_rfl⟩
theorem p18:ni[0]? = some (oo ni 0)/\(oo ni 0).guard=none/\(oo ni 0).dst=some 61/\(oo ni 0).op=.next (.tmp 60) false/\ni[1]? = some (oo ni 1)/\(oo ni 1).guard=none/\(oo ni 1).dst=some 62/\(oo ni 1).op=.extract (.tmp 61) 0:=⟨by kernel_rfl,by kernel_rfl,by kernel_rfl,by kernel_rfl,by kernel_rfl,by kernel_rfl,by kernel_rfl,by kernel_rfl⟩
theorem Qm:fY[0]? = some (oo fY 0)/\(oo fY 0).guard=none/\(oo fY 0).dst=some 63/\(oo fY 0).op=.entry (.tmp 60)/\fY[1]? = some (oo fY 1)/\(oo fY 1).guard=none/\(oo fY 1).dst=some 64/\(oo fY 1).op=.extract (.tmp 63) 0/\fY[2]? = some (oo fY 2)/\(oo fY 2).guard=none/\(oo fY 2).dst=some 65/\(oo fY 2).op=.extract (.tmp 63) 1:=⟨by kernel_rfl,by kernel_rfl,by kernel_rfl,by kernel_rfl,by kernel_rfl,by kernel_rfl,by kernel_rfl,by kernel_rfl,by kernel_rfl,by kernel_rfl,by kernel_rfl,by kernel_rfl⟩
theorem p20:hJ[0]? = some (oo hJ 0)/\(oo hJ 0).guard=none/\(oo hJ 0).dst=some 66/\(oo hJ 0).op=.move (.tmp 13)/\hJ[1]? = some (oo hJ 1)/\(oo hJ 1).guard=none/\(oo hJ 1).dst=some 67/\hJ[2]? = some (oo hJ 2)/\(oo hJ 2).guard=none/\(oo hJ 2).dst=some 68:=⟨by kernel_rfl,by kernel_rfl,by kernel_rfl,by kernel_rfl,by kernel_rfl,by kernel_rfl,by kernel_rfl,by kernel_rfl,by kernel_rfl,by kernel_rfl⟩
theorem p21:(en[6]? = some (oo en 6)/\(oo en 6).guard=none/\(oo en 6).dst=some 75/\(oo en 6).op=.build 87 #[(0,.tmp 71),(1,.tmp 73),(2,.tmp 74)])/\(en[7]? = some (oo en 7)/\(oo en 7).guard=none/\(oo en 7).dst=some 76/\(oo en 7).op=.buildSlice 83 1 #[(0,.tmp 75)])/\(en[8]? = some (oo en 8)/\(oo en 8).guard=none/\(oo en 8).dst=some 77/\(oo en 8).op=.call { callee:=.builtin .append,args:=#[.tmp 69,.tmp 76],argTypes:=#[83,83] })/\en[9]? = some (oo en 9)/\(oo en 9).guard=none/\(oo en 9).dst=some 11/\(oo en 9).op=.assign (.tmp 77):=⟨⟨by kernel_rfl,by kernel_rfl,by kernel_rfl,by kernel_rfl⟩,⟨by kernel_rfl,by kernel_rfl,by kernel_rfl,by kernel_rfl⟩,⟨by kernel_rfl,by kernel_rfl,by kernel_rfl,by kernel_rfl⟩,by kernel_rfl,by kernel_rfl,by kernel_rfl,by kernel_rfl⟩
theorem Kv {ops:Array Oper} {k:Nat} {ro:Option Nat} {ρ:Operand->Value} (h:(match (oo ops k).op with | .defer _=>true | _=>false)=false):(oo ops k).semAt ro ρ=execOp ρ (oo ops k):=Oper.semAt_eq _ _ _ fun c e=>by rw [e] at h; cases h
theorem Rc (ρ:Operand->Value):execOp ρ (oo hJ 1)=execOp (fun _=>ρ (.tmp 66)) (oo hJ 1):=by kernel_rfl
theorem C8 (q:Option Addr) (n c:Nat) (w:World):(execOp (fun _=>.slice q n c) (oo hJ 1)).run Tryz.prog w=.ok (.value (.int .i64 n)) w:=by kernel_rfl
theorem oGt (ρ:Operand->Value):execOp ρ (oo hJ 2)=execOp (fun x=>match x with | .tmp _=>ρ (.tmp 67) | .const v=>ρ (.const v) | _=>undef) (oo hJ 2):=by kernel_rfl
theorem Gn (n:Int) (w:World):(execOp (fun x=>match x with | .tmp _=>.int .i64 n | .const v=>v | _=>undef) (oo hJ 2)).run Tryz.prog w=.ok (.value (.bool (decide (n > 1)))) w:=by kernel_rfl
theorem Iq (x y:Int) (q:Option Addr) (n c:Nat) (w:World):(Instr.build 87 #[(0,.int .i64 x),(1,.int .i64 y),(2,.slice q n c)]).run Tryz.prog w=.ok (.agg #[.int .i64 x,.int .i64 y,.slice q n c]) w:=by kernel_rfl
theorem HW (x y:Int) (q:Option Addr) (n c:Nat) (w:World):(Instr.buildSlice 83 1 #[(0,.agg #[.int .i64 x,.int .i64 y,.slice q n c])]).run Tryz.prog w=.ok (.slice (some ⟨w.heap.size,0,none⟩) 1 1) (w.alloc (.cells #[.int .i64 x,.int .i64 y,.slice q n c] 87)):=by kernel_rfl
noncomputable def i87:TypeInfo:=(Tryz.prog.info? 87).getD default
noncomputable def z87:Value:=i87.zero.getD undef
theorem Hg:Tryz.prog.underlying 83=some (.slice 87)/\Tryz.prog.info? 87=some i87/\i87.zero=some z87/\i87.size=3/\i87.bytes=40/\z87.cells.size=3:=⟨by kernel_rfl,by kernel_rfl,by kernel_rfl,by kernel_rfl,by kernel_rfl,by kernel_rfl⟩
theorem D8:bg Tryz.prog eqs fY (fY.toList.drop 3)=some x19b/\bQ 81 x19b=true:=⟨by kernel_rfl,by kernel_rfl⟩
theorem En:bg Tryz.prog eqs en (en.toList.take 6)=some yt/\bQ 81 yt=true:=⟨by kernel_rfl,by kernel_rfl⟩
theorem k_19b (u v m:Value):okG [(65,u),(60,m),(11,v)] x19b=true/\gU [(65,u),(60,m),(11,v)] x19b=[(13,u),(65,u),(60,m),(11,v)]:=⟨by kernel_rfl,by kernel_rfl⟩
theorem G2 (u v m:Value):okG [(13,u),(60,m),(11,v)] yt=true/\gU [(13,u),(60,m),(11,v)] yt=[(74,u),(69,v),(13,u),(60,m),(11,v)]:=⟨by kernel_rfl,by kernel_rfl⟩
theorem fC {w w':World} {base:Nat} {e:TypeId} {size:Nat} {v:Value} {n:Nat} {xs:List Value} (h:w.ownsRow base e size v n xs) (hk:∀ q,v.ownBlock=some q->w'.heap[q]? = w.heap[q]?):w'.ownsRow base e size v n xs:=by
 refine ⟨h.1,?_⟩
 rcases h.2 with h | ⟨g,cap,cur,rfl,h1,h2,h3⟩
 ·exact .inl h
 ·exact .inr ⟨g,cap,cur,rfl,h1,(hk g rfl).trans h2,h3⟩
theorem eZ {w:World} {base:Nat} {e:TypeId} {size:Nat} {v:Value} {n:Nat} {xs:List Value} (h:w.ownsRow base e size v n xs) {q:Nat} (hq:v.ownBlock=some q):∃ cs,w.heap[q]? = some (.cells cs e (0,0)):=by
 rcases h.2 with ⟨rfl,_⟩ | ⟨g,cap,cur,rfl,h1,h2,h3⟩
 ·cases hq
 ·cases hq; exact ⟨_,h2⟩
def dK (A:Es):List Value:=A.flatMap fun x=>[.int .i64 x.1.1,.int .i64 x.1.2,x.2]
theorem wX (A:Es) (x:Pt × Value):dK (A++[x])=dK A++[.int .i64 x.1.1,.int .i64 x.1.2,x.2]:=by simp [dK]
theorem wS {E:Es} {x:MapEntry} (h:x ∈ entE E 0):∃ b y,E[b]? = some y/\x={ key:=kpP y.1,val:=y.2,born:=b }:=by
 obtain ⟨b,hb⟩:=List.getElem?_of_mem h
 rw [gg] at hb
 cases hy:E[b]? with
 | none=>rw [hy] at hb; cases hb
 | some y=>rw [hy] at hb; simp at hb; exact ⟨b,y,hy,hb.symm⟩
theorem zd (E:Es):((entE E 0).map (·.born)).Nodup:=by
 have:(entE E 0).map (·.born)=List.range E.length:=by
  apply List.ext_getElem?
  intro i
  rw [List.getElem?_map,gg]
  by_cases h:i < E.length
  ·simp [h]
  ·rw [List.getElem?_eq_none (by omega)]; simp; omega
 rw [this]; exact List.nodup_range
def jM (E:Es) (M:Mp) (seen:List Nat):Es:=(seen.filterMap fun b=>E[b]?).filter fun x=>decide (1 < (bp M x.1).length)
theorem yd {E:Es} {M:Mp} {seen:List Nat} {b:Nat} {y:Pt × Value} (hb:E[b]? = some y):jM E M (seen++[b])=if 1 < (bp M y.1).length then jM E M seen++[y] else jM E M seen:=by
 unfold jM
 rw [List.filterMap_append,List.filter_append]
 simp only [List.filterMap_cons,hb,List.filterMap_nil,List.filter_cons,List.filter_nil,decide_eq_true_eq]
 split <;> simp
theorem Br {n:Nat} {l:List Nat} (hn:l.Nodup) (h:∀ z ∈ l,z < n):l.length<=n:=by
 have hp:l.Perm ((List.range n).filter fun z=>decide (z ∈ l)):=(List.perm_ext_iff_of_nodup hn (List.nodup_range.filter _)).2 fun z=>by
  simp only [List.mem_filter,List.mem_range,decide_eq_true_eq]
  exact ⟨fun hz=>⟨h z hz,hz⟩,fun hz=>hz.2⟩
 rw [hp.length_eq]
 have:=List.length_filter_le (fun z=>decide (z ∈ l)) (List.range n)
 simpa using this
theorem A8 {E:Es} {M:Mp} {seen:List Nat} (hn:seen.Nodup) (hb:∀ z ∈ seen,z < E.length):(jM E M seen).length<=E.length:=by
 unfold jM
 exact Nat.le_trans (List.length_filter_le _ _) (Nat.le_trans (List.length_filterMap_le _ _) (Br hn hb))
theorem DS {w:World} {cs:Array Value} {t:TypeId} {j:Nat} {u:Value} (h:cs.toList[j]? = some u):(w.alloc (.cells cs t)).cell? ((⟨w.heap.size,0,none⟩:Addr).add j)=some u:=by
 have e:(⟨w.heap.size,0,none⟩:Addr).add j=⟨w.heap.size,j,none⟩:=by
  unfold Addr.add
  split <;> simp_all
 simp only [World.cell?,e,(MapKept.heap_alloc w (.cells cs t)).1]
 simpa using h
theorem DG {w:World} (o:Obj):(w.alloc o).heap.size=w.heap.size+1:=by simp
section
variable {B:bm} {N:Nat} {e:Env} {h:List O} {G:List (Nat × Value)} {Fr:Nat->Prop} {Pn:List (Nat × Nat × Nat)} {a:Act} {w:World}
theorem VX.drew (hs:VX B N e h G Fr Pn a w) {w1:World} (hw:w1=w ∨ w1=w.drew):VX B N e h G Fr Pn a w1:=by
 rcases hw with rfl | rfl
 ·exact hs
 ·obtain ⟨m,sl,lh,ν,nV,nS,h1,h2,h3,h4,h5,h6,h7,h8⟩:=hs
  exact ⟨m,sl,lh,ν,nV,nS,h1,h2,h3.drew _,h4,h5,h6,fun q hq=>h7 q hq,h8⟩
theorem VX.key (hs:VX B N e h G Fr Pn a w) {d:Nat} (hd:d < N) (hg:wH G (some d)) (p:Pt):VX B N ((d,.agg [.int .i64 p.1,.int .i64 p.2])::e) h G Fr Pn (a.put (some d) (kpP p)) w :=
 hs.put hd hg fun ν m=>⟨.agg [.int .i64 p.1,.int .i64 p.2],by simp only [vr,vrs]; exact ⟨_,rfl,_,_,rfl,rfl,_,_,rfl,rfl,rfl⟩,by simp only [vrel,af,kpP,kp]; exact ⟨_,rfl,_,_,rfl,rfl,_,_,rfl,rfl,rfl⟩⟩
end
structure LX (B:bm) (r:Nat) (E:Es) (M:Mp) (v:Value) (ri:Nat) (seen:Array Nat) (c0:Nat) (a:Act) (w:World):Prop where
 st:VX B 81 [] [] [(60,.pointer (some ⟨ri,0,none⟩)),(11,v)] (fun q=>FrS E bU q ∨ v.ownBlock=some q) [] a w
 mq:MQ B r E M bU w
 it:w.heap[ri]? = some (.mapIter (some r) E.length seen c0)
 le:E.length<=c0
 z0:B.w0.heap.size<=ri
 zf:B.wf.heap.size<=ri
 ne:ri ≠ r
 al:w.ownsRow 0 87 3 v (jM E M seen.toList).length (dK (jM E M seen.toList))
 aq:∀ q,v.ownBlock=some q->¬ FrS E bU q
 sn:seen.toList.Nodup
 sb:∀ b ∈ seen.toList,b < E.length
section
variable {ct:aX} (hT:aW Tryz.prog eqs its ct) {B:bm} {F:Fence} {n:Nat} {Q:Exit->Act->World->Prop} {a:Act} {w:World} {r:Nat}
include hT
theorem HJ (hF:Go.Sx.Open F) {E:Es} {M:Mp} {v:Value} {ri c0:Nat} {seen:Array Nat} {K:Act->World->Prop} (hE:E.length<=1000000000) (H:LX B r E M v ri seen c0 a w)
 (hK:∀ a' w' v' seen' c0',(leftOf (entE E 0).toArray seen').size < (leftOf (entE E 0).toArray seen).size->LX B r E M v' ri seen' c0' a' w'->K a' w')
 (hQ:∀ a' w',LX B r E M v ri seen c0 a w->(∀ b,b < E.length->b ∈ seen.toList)->VX B 81 [] [] [(11,v)] (fun q=>FrS E bU q ∨ v.ownBlock=some q) [] a' w'->w'=w->Q (.exit 4) a' w'):D3.wpIn F n Tryz.prog (Exit.then K Q) a w:=by
 obtain ⟨q1,q2,q3,q4,q5,q6,q7,q8⟩:=p18
 unfold D3
 refine wpIn_seq (wpIn_region ?_)
 rw [show List.range ni.size=[0,1] by kernel_rfl]
 have hold:∀ x ∈ (entE E 0).toArray.toList,x.born < E.length:=fun x hx=>by
  obtain ⟨b,y,h1,rfl⟩:=wS (E:=E) (by simpa using hx)
  exact (List.getElem?_eq_some_iff.1 h1).1
 rcases run_next_at (P:=Tryz.prog) w (oo ni 0).type ri r E.length c0 seen _ _ H.it H.mq.hp hold H.le with ⟨h0,hr⟩ | ⟨x,hx,w1,hw,hr⟩
 ·refine co hF q1 q2 (DR q4 (aK (H.st.at_raw (List.mem_cons_self ..))) hr) ?_
  rw [q3]
  have s1:=H.st.raw (d:=61) (by decide) (bh rfl) (.tuple #[.bool false])
  refine co (v:=.bool false) hF q5 q6 (ve q8 (aK (s1.at_raw (List.mem_cons_self ..))) rfl) ?_
  rw [q7]
  have s2:=s1.raw (d:=62) (by decide) (bh rfl) (.bool false)
  show Code.wpIn F n Tryz.prog _ _ _ _
  refine wpIn_seq (wpIn_cond_false (aK (s2.at_raw (List.mem_cons_self ..))) (wpIn_exit ?_))
  refine hQ _ _ H (fun b hb=>?_) ((s2.cut (e':=[]) trivial).drop (by simp)) rfl
  apply Classical.byContradiction
  intro hn
  have hm:({ key:=kpP (E[b]'hb).1,val:=(E[b]'hb).2,born:=b }:MapEntry) ∈ leftOf (entE E 0).toArray seen:=by
   unfold leftOf
   rw [Array.mem_filter]
   refine ⟨?_,?_⟩
   ·rw [List.mem_toArray]
    exact List.mem_of_getElem? (i:=b) (by rw [gg,List.getElem?_eq_getElem hb]; simp)
   ·simp only [Bool.not_eq_true']
    cases hc:seen.contains b with
    | false=>rfl
    | true=>rw [Array.contains_iff_mem] at hc; exact (hn (by simpa using hc)).elim
  have:=Array.size_pos_of_mem hm
  omega
 ·refine co hF q1 q2 (DR q4 (aK (H.st.at_raw (List.mem_cons_self ..))) hr) ?_
  rw [q3]
  obtain ⟨y1,y2⟩:=mem_left hx
  obtain ⟨b,y,hb,rfl⟩:=wS (E:=E) (by simpa using y1)
  have hym:=List.mem_of_getElem? hb
  have hbl:=(List.getElem?_eq_some_iff.1 hb).1
  have hbs:b ∉ seen.toList:=fun hm=>by simp at y2; exact y2 (by simpa using hm)
  have hh:w1.heap=w.heap:=by rcases hw with rfl | rfl <;> rfl
  have hit:w1.heap[ri]? = some (.mapIter (some r) E.length seen c0):=by rw [hh]; exact H.it
  have hsz:ri < w1.heap.size:=(Array.getElem?_eq_some_iff.1 hit).1
  -- the row that is looked at
  have hrow:=H.mq.row y hym trivial
  have hyl:=H.mq.ne y hym
  obtain ⟨yq,yc,yv⟩:∃ q c,y.2=.slice (some ⟨q,0,none⟩) (bp M y.1).length c:=by
   rcases hrow with ⟨_,e1⟩ | ⟨q,c,vs,e1,_⟩
   ·exact (hyl e1).elim
   ·exact ⟨q,c,e1⟩
  have hfne:∀ q,(FrS E bU q ∨ v.ownBlock=some q)->q ≠ ri:=fun q hq e1=>by
   subst e1
   rcases hq with ⟨z,z1,z2,z3⟩ | hq
   ·obtain ⟨cs,hc⟩:=(H.mq.row z z1 z2).blk z3
    rw [H.it] at hc; cases hc
   ·obtain ⟨cs,hc⟩:=eZ H.al hq
    rw [H.it] at hc; cases hc
  have t0:=(H.st.drew hw).putObj hit rfl H.zf H.z0 hfne (.mapIter (some r) E.length (seen.push b) E.length)
  have kp0:∀ q,q ≠ ri->(w1.putObj ri (.mapIter (some r) E.length (seen.push b) E.length)).heap[q]? = w.heap[q]? := fun q hq=>by rw [World.putObj_heap_other hq,hh]
  have m2:MQ B r E M bU (w1.putObj ri (.mapIter (some r) E.length (seen.push b) E.length)):=⟨by rw [kp0 _ (Ne.symm H.ne)]; exact H.mq.hp,H.mq.key,H.mq.nd,fun x hx hS=>(H.mq.row x hx hS).keep fun q hq=>kp0 q (hfne q (.inl ⟨x,hx,hS,hq⟩)),H.mq.ne,H.mq.dis,H.mq.z0,H.mq.zf⟩
  have al2:(w1.putObj ri (.mapIter (some r) E.length (seen.push b) E.length)).ownsRow 0 87 3 v _ (dK (jM E M seen.toList)):=fC H.al fun q hq=>kp0 q (hfne q (.inr hq))
  have hit2:(w1.putObj ri (.mapIter (some r) E.length (seen.push b) E.length)).heap[ri]? = some (.mapIter (some r) E.length (seen.push b) E.length):=World.putObj_heap_same hsz
  rw [show setBlock w1 ri (.mapIter (some r) E.length (seen.push b) E.length)=w1.putObj ri (.mapIter (some r) E.length (seen.push b) E.length) from rfl]
  generalize w1.putObj ri (.mapIter (some r) E.length (seen.push b) E.length)=w2 at t0 m2 al2 hit2 ⊢
  have s1:=t0.raw (d:=61) (by decide) (bh rfl) (.tuple #[.bool true,kpP y.1,y.2])
  refine co (v:=.bool true) hF q5 q6 (ve q8 (aK (s1.at_raw (List.mem_cons_self ..))) rfl) ?_
  rw [q7]
  have s2:=s1.raw (d:=62) (by decide) (bh rfl) (.bool true)
  show Code.wpIn F n Tryz.prog _ _ _ _
  refine wpIn_seq (wpIn_cond_true (aK (s2.at_raw (List.mem_cons_self ..))) (wpIn_skip ?_))
  have s2:=(s2.cut (e':=[]) trivial).drop (G':=[(60,.pointer (some ⟨ri,0,none⟩)),(11,v)]) (by simp)
  refine wpIn_block (wpIn_seq (wpIn_region ?_))
  obtain ⟨a1,a2,a3,a4,a5,a6,a7,a8,a9,a10,a11,a12⟩:=Qm
  rw [show List.range fY.size=0::1::2::(List.range' 3 (fY.toList.drop 3).length++[]) by kernel_rfl]
  refine co hF a1 a2 (Hm a4 (aK (s2.at_raw (List.mem_cons_self ..))) (run_entry_at w2 ri r E.length seen _ _ { key:=kpP y.1,val:=y.2,born:=b } ?_ m2.hp (by simpa using y1) (zd _))) ?_
  ·exact hit2
  rw [a3]
  have s3:=s2.raw (d:=63) (by decide) (bh rfl) (.tuple #[kpP y.1,y.2])
  refine co (v:=kpP y.1) hF a5 a6 (ve a8 (aK (s3.at_raw (List.mem_cons_self ..))) rfl) ?_
  rw [a7]
  have s4:=s3.key (d:=64) (by decide) (bh rfl) y.1
  refine co (v:=y.2) hF a9 a10 (ve a12 (aK (d:=63) (s4.at_raw (List.mem_cons_self ..))) rfl) ?_
  rw [a11]
  have s5:=((s4.drop (G':=[(60,.pointer (some ⟨ri,0,none⟩)),(11,v)]) (by simp)).cut (e':=[(64,.agg [.int .i64 y.1.1,.int .i64 y.1.2])]) (And.intro rfl trivial)).raw (d:=65) (by decide) (bh rfl) y.2
  have s5:=s5.cut (e':=[(64,.agg [.int .i64 y.1.1,.int .i64 y.1.2])]) (And.intro rfl trivial)
  refine Eg hT hF (l:=fY.toList.drop 3) (k:=3) (xs:=x19b) (Qv:=fun e1 h1=>kC e1 [(12,.pl 0 0)]/\h1=hP y.1.1 y.1.2) (by intro j hj; simp) D8.1 D8.2 (k_19b _ _ _).1 s5 (show sat _ (tr ct x19b _ _) _ by rw [t19b]; exact ⟨(And.intro rfl trivial),rfl⟩) fun a6 w6 e6 g6 ⟨r6,r6'⟩ s6 k6=>?_
  subst r6'
  rw [(k_19b _ _ _).2] at s6
  have s6:=(s6.cut r6).drop (G':=[(13,y.2),(60,.pointer (some ⟨ri,0,none⟩)),(11,v)]) (by simp)
  have kf:Kp (FrS E bU) w2 w6:=⟨k6.oth,fun q hq=>k6.frn q (.inl hq)⟩
  have m6:=m2.keep kf
  have al6:=fC al2 fun q hq=>k6.frn q (.inr hq)
  have it6:=k6.oth.same ri _ hit2 rfl
  show Code.wpIn F n Tryz.prog _ _ _ _
  obtain ⟨c1,c2,c3,c4,c5,c6,c7,c8,c9,c10⟩:=p20
  refine wpIn_seq (wpIn_region ?_)
  rw [show List.range hJ.size=[0,1,2] by kernel_rfl]
  refine co hF c1 c2 (i4 (.inl c4)) ?_
  rw [c3,aK (d:=13) (s6.at_raw (v:=y.2) (List.mem_cons_self ..))]
  have s7:=s6.raw (d:=66) (by decide) (bh rfl) y.2
  refine co hF c5 c6 (v:=.int .i64 ((bp M y.1).length:Int)) (w':=w6) ?_ ?_
  ·rw [Kv (by kernel_rfl),Rc,aK (d:=66) (s7.at_raw (v:=y.2) (List.mem_cons_self ..)),yv]
   exact C8 _ _ _ _
  rw [c7]
  have s8:=s7.raw (d:=67) (by decide) (bh rfl) (.int .i64 ((bp M y.1).length:Int))
  refine co hF c8 c9 (v:=.bool (decide (((bp M y.1).length:Int) > 1))) (w':=w6) ?_ ?_
  ·rw [Kv (by kernel_rfl),oGt,aK (d:=67) (s8.at_raw (v:=.int .i64 ((bp M y.1).length:Int)) (List.mem_cons_self ..))]
   exact Gn _ _
  rw [c10]
  have s9:=s8.raw (d:=68) (by decide) (bh rfl) (.bool (decide (((bp M y.1).length:Int) > 1)))
  have hps:(seen.push b).toList=seen.toList++[b]:=by simp
  have sn':(seen.push b).toList.Nodup:=by
   rw [hps,List.nodup_append]
   exact ⟨H.sn,by simp,fun u hu z hz=>by rw [List.mem_singleton.1 hz]; exact fun e1=>hbs (e1 ▸ hu)⟩
  have sb':∀ z ∈ (seen.push b).toList,z < E.length:=fun z hz=>by
   rw [hps] at hz
   rcases List.mem_append.1 hz with hz | hz
   ·exact H.sb z hz
   ·rw [List.mem_singleton.1 hz]; exact hbl
  have hpk:=yd (M:=M) (seen:=seen.toList) hb
  show Code.wpIn F n Tryz.prog _ _ _ _
  by_cases hlen:1 < (bp M y.1).length
  ·rw [decide_eq_true (show ((bp M y.1).length:Int) > 1 by omega)] at s9 ⊢
   refine wpIn_cond_true (aK (s9.at_raw (List.mem_cons_self ..))) (wpIn_region ?_)
   have s10:=(s9.cut (e':=[(12,.pl 0 0)]) (And.intro rfl trivial)).drop (G':=[(13,y.2),(60,.pointer (some ⟨ri,0,none⟩)),(11,v)]) (by simp)
   rw [show List.range en.size=List.range' 0 (en.toList.take 6).length++[6,7,8,9] by kernel_rfl]
   have l21:(en.toList.take 6).length=6:=by kernel_rfl
   refine Eg hT hF (l:=en.toList.take 6) (k:=0) (xs:=yt) (Qv:=fun e1 h1=>kC e1 [(73,.int .i64 y.1.2),(71,.int .i64 y.1.1)]/\h1=hP y.1.1 y.1.2) (fun j hj=>by rw [List.getElem?_take,if_pos (by omega)]; simp) En.1 En.2 (G2 _ _ _).1 s10 (show sat _ (tr ct yt _ _) _ by rw [Q3]; exact ⟨id,id,(And.intro rfl (And.intro rfl trivial)),rfl⟩) fun a11 w11 e11 g11 ⟨r11,r11'⟩ s11 k11=>?_
   subst r11'
   rw [(G2 _ _ _).2] at s11
   have s11:=(s11.cut r11).drop (G':=[(74,y.2),(69,v),(60,.pointer (some ⟨ri,0,none⟩))]) (by simp)
   have m11:=m6.keep ⟨k11.oth,fun q hq=>k11.frn q (.inl hq)⟩
   have al11:=fC al6 fun q hq=>k11.frn q (.inr hq)
   have it11:=k11.oth.same ri _ it6 rfl
   obtain ⟨⟨b1,b2,b3,b4⟩,⟨d1,d2,d3,d4⟩,⟨f1,f2,f3,f4⟩,g1,g2,g3,g4⟩:=p21
   have sx:=s11.forget (e':=[(73,.int .i64 y.1.2),(71,.int .i64 y.1.1)]) (And.intro (And.intro rfl rfl) (And.intro (And.intro rfl rfl) trivial))
   refine co (v:=.agg #[.int .i64 y.1.1,.int .i64 y.1.2,y.2]) (w':=w11) hF b1 b2 (ID b4 ?_) ?_
   ·simp only [List.map_toArray,List.map_cons,List.map_nil]
    rw [aK (sx.at_int (d:=71) rfl (by decide)),aK (sx.at_int (d:=73) rfl (by decide)),aK (d:=74) (sx.at_raw (v:=y.2) (List.mem_cons_self ..)),yv]
    exact Iq _ _ _ _ _ _
   rw [b3]
   have s12:=((sx.cut (e':=[]) trivial).drop (G':=[(69,v),(60,.pointer (some ⟨ri,0,none⟩))]) (by simp)).raw (d:=75) (by decide) (bh rfl) (.agg #[.int .i64 y.1.1,.int .i64 y.1.2,y.2])
   refine co (v:=.slice (some ⟨w11.heap.size,0,none⟩) 1 1) (w':=w11.alloc (.cells #[.int .i64 y.1.1,.int .i64 y.1.2,y.2] 87)) hF d1 d2 (Ix d4 ?_) ?_
   ·simp only [List.map_toArray,List.map_cons,List.map_nil]
    rw [aK (d:=75) (s12.at_raw (List.mem_cons_self ..)),yv]
    exact HW _ _ _ _ _ _
   rw [d3]
   have hga:w11.grownBy (w11.alloc (.cells #[.int .i64 y.1.1,.int .i64 y.1.2,y.2] 87)) none:=World.grownBy_alloc _ _ _
   have s13:=((s12.cut (e':=[]) trivial).grow hga (fun q hq=>by cases hq) (Fr':=fun q=>FrS E bU q ∨ v.ownBlock=some q) fun q hq=>.inl hq).raw (d:=76) (by decide) (bh rfl) (.slice (some ⟨w11.heap.size,0,none⟩) 1 1)
   have kpa:∀ q,q < w11.heap.size->(w11.alloc (.cells #[.int .i64 y.1.1,.int .i64 y.1.2,y.2] 87)).heap[q]? = w11.heap[q]? := fun q hq=>hga.block q hq (by simp)
   have lts:∀ q,FrS E bU q->q < w11.heap.size:=fun q ⟨z,z1,z2,z3⟩=>by obtain ⟨cs,hc⟩:=(m11.row z z1 z2).blk z3; exact (Array.getElem?_eq_some_iff.1 hc).1
   have ltv:∀ q,v.ownBlock=some q->q < w11.heap.size:=fun q hq=>by obtain ⟨cs,hc⟩:=eZ al11 hq; exact (Array.getElem?_eq_some_iff.1 hc).1
   have al13:=fC al11 fun q hq=>kpa q (ltv q hq)
   have hnew:=fun j u hj=>DS (w:=w11) (cs:=#[.int .i64 y.1.1,.int .i64 y.1.2,y.2]) (t:=87) (j:=j) (u:=u) hj
   have hpl:=Nat.le_trans (A8 (M:=M) H.sn H.sb) hE
   obtain ⟨j1,j2,j3,j4,j5,j6⟩:=Hg
   obtain ⟨v',w',hr',ho',hg',hnil',hat'⟩:=run_append_own_at (P:=Tryz.prog) (w11.alloc (.cells #[.int .i64 y.1.1,.int .i64 y.1.2,y.2] 87)) 0 83 (oo en 8).type 87 i87 z87 3 40 j1 j2 j3 j4 j5 j6 (by decide) v _ _ al13 ⟨w11.heap.size,0,none⟩ 1 1 [.int .i64 y.1.1,.int .i64 y.1.2,y.2] rfl hnew (by intro u hu; simp at hu; rcases hu with rfl | rfl | rfl <;> first | rfl | (rw [yv]; rfl)) (by unfold maxLen; omega) (by omega) (Nat.zero_le _)
   refine co (v:=v') (w':=w') hF f1 f2 (IM f4 ?_) ?_
   ·rw [aK (d:=69) (s13.at_raw (v:=v) (by simp)),aK (d:=76) (s13.at_raw (List.mem_cons_self ..))]
    exact hr'
   rw [f3]
   have hsz':=DG (w:=w11) (.cells #[.int .i64 y.1.1,.int .i64 y.1.2,y.2] 87)
   have kpb:∀ q,q < w11.heap.size->v.ownBlock ≠ some q->w'.heap[q]? = w11.heap[q]? := fun q hq hne=>(hg'.block q (by omega) (fun e1=>hne e1.symm)).trans (kpa q hq)
   have aq':∀ q,v'.ownBlock=some q->¬ FrS E bU q:=fun q hq hf=>by
    rcases hat' with e1 | e1
    ·exact H.aq q (e1 ▸ hq) hf
    ·rw [e1,hsz'] at hq; cases hq
     have:=lts _ hf; omega
   have s14:=((s13.cut (e':=[]) trivial).drop (G':=[(60,.pointer (some ⟨ri,0,none⟩))]) (by simp)).grow hg' (fun q hq=>.inr hq) (Fr':=fun q=>FrS E bU q ∨ v'.ownBlock=some q) (fun q hq=>by
    rcases hq with hq | hq
    ·exact .inl (.inl hq)
    ·rcases hat' with e1 | e1
     ·exact .inl (.inr (e1 ▸ hq))
     ·have hv':q < w'.heap.size:=by obtain ⟨cs,hc⟩:=eZ ho' hq; exact (Array.getElem?_eq_some_iff.1 hc).1
      rw [e1] at hq; cases hq
      exact .inr ⟨Nat.le_refl _,hv'⟩)
   have s15:=s14.raw (d:=77) (by decide) (bh rfl) v'
   refine co (v:=v') (w':=w') hF g1 g2 (by rw [i4 (.inr g4),aK (d:=77) (s15.at_raw (v:=v') (List.mem_cons_self ..))]) ?_
   rw [g3]
   have s16:=((s15.cut (e':=[]) trivial).drop (G':=[(60,.pointer (some ⟨ri,0,none⟩))]) (by simp)).raw (d:=11) (by decide) (bh rfl) v'
   refine hK _ _ v' (seen.push b) E.length (left_shrinks _ _ { key:=kpP y.1,val:=y.2,born:=b } hx) ⟨(s16.cut (e':=[]) trivial).drop (by simp),⟨?_,m11.key,m11.nd,fun z hz hS=>(m11.row z hz hS).keep fun q hq=>kpb q (lts q ⟨z,hz,hS,hq⟩) fun e1=>H.aq q e1 ⟨z,hz,hS,hq⟩,m11.ne,m11.dis,m11.z0,m11.zf⟩,?_,Nat.le_refl _,H.z0,H.zf,H.ne,?_,aq',sn',sb'⟩
   ·rw [kpb r (Array.getElem?_eq_some_iff.1 m11.hp).1 fun e1=>?_]
    ·exact m11.hp
    ·obtain ⟨cs,hc⟩:=eZ al11 e1
     rw [m11.hp] at hc; cases hc
   ·rw [kpb ri (Array.getElem?_eq_some_iff.1 it11).1 fun e1=>?_]
    ·exact it11
    ·obtain ⟨cs,hc⟩:=eZ al11 e1
     rw [it11] at hc; cases hc
   ·rw [hps,hpk,if_pos hlen,wX,List.length_append]
    exact ho'
  ·rw [decide_eq_false (show ¬ ((bp M y.1).length:Int) > 1 by omega)] at s9 ⊢
   refine wpIn_cond_false (aK (s9.at_raw (List.mem_cons_self ..))) (wpIn_skip ?_)
   refine hK _ _ v (seen.push b) E.length (left_shrinks _ _ { key:=kpP y.1,val:=y.2,born:=b } hx) ⟨(s9.forget (e':=[]) trivial).drop (by simp),m6,it6,Nat.le_refl _,H.z0,H.zf,H.ne,?_,H.aq,sn',sb'⟩
   rw [hps,hpk,if_neg hlen]; exact al6
end
end Go.Dx
namespace Go.Proofs
open Go.Shelf Go.RowKit Go.Lib Go.Sort
def Tryz.sortJ_ren:Go.Shelf.Ren:=⟨fun | 6=>94 | 15=>131 | 14=>130 | 28=>160 | 29=>161 | 20=>152 | 21=>153 | 22=>154 | 23=>155 | 24=>156 | 25=>157 | 26=>158 | 27=>159 | 46=>172 | 47=>173 | 48=>174 | 49=>175 | 50=>176 | 57=>189 | n=>n,fun | 22=>83 | 24=>87 | 25=>155 | 3=>3 | 39=>188 | 0=>0 | 53=>220 | 55=>190 | 4=>4 | 46=>213 | 45=>212 | 50=>217 | 5=>5 | 9=>9 | 66=>233 | 70=>237 | 76=>248 | 77=>62 | n=>n,fun | n=>n⟩
theorem Tryz.sortJ:Go.Proofs.SlLaysF0.n6 Tryz.prog Tryz.sortJ_ren:={
 mixed:=by kernel_rfl
 f6:=⟨Tryz.f94.name,by decide,Tryz.func94.trans (congrArg some (by kernel_rfl))⟩
 f14:=⟨Tryz.f130.name,by decide,Tryz.func130.trans (congrArg some (by kernel_rfl))⟩
 f15:=Tryz.func131.trans (congrArg some (by kernel_rfl))
 f20:=⟨Tryz.f152.name,by decide,Tryz.func152.trans (congrArg some (by kernel_rfl))⟩
 f21:=⟨Tryz.f153.name,by decide,Tryz.func153.trans (congrArg some (by kernel_rfl))⟩
 f22:=⟨Tryz.f154.name,by decide,Tryz.func154.trans (congrArg some (by kernel_rfl))⟩
 f23:=⟨Tryz.f155.name,by decide,Tryz.func155.trans (congrArg some (by kernel_rfl))⟩
 f24:=⟨Tryz.f156.name,by decide,Tryz.func156.trans (congrArg some (by kernel_rfl))⟩
 f25:=⟨Tryz.f157.name,by decide,Tryz.func157.trans (congrArg some (by kernel_rfl))⟩
 f26:=⟨Tryz.f158.name,by decide,Tryz.func158.trans (congrArg some (by kernel_rfl))⟩
 f27:=⟨Tryz.f159.name,by decide,Tryz.func159.trans (congrArg some (by kernel_rfl))⟩
 f28:=Tryz.func160.trans (congrArg some (by kernel_rfl))
 f29:=Tryz.func161.trans (congrArg some (by kernel_rfl))
 f46:=⟨Tryz.f172.name,by decide,Tryz.func172.trans (congrArg some (by kernel_rfl))⟩
 f47:=Tryz.func173.trans (congrArg some (by kernel_rfl))
 f48:=Tryz.func174.trans (congrArg some (by kernel_rfl))
 f49:=⟨Tryz.f175.name,by decide,Tryz.func175.trans (congrArg some (by kernel_rfl))⟩
 f50:=⟨Tryz.f176.name,by decide,Tryz.func176.trans (congrArg some (by kernel_rfl))⟩
 f57:=⟨Tryz.f189.name,by decide,Tryz.func189.trans (congrArg some (by kernel_rfl))⟩
 t0:=Tryz.underlying0
 a0:=Tryz.isAgg0
 z0:=Tryz.sizeOf0
 v0:=Tryz.zeroValue0
 t3:=Tryz.underlying3
 a3:=Tryz.isAgg3
 z3:=Tryz.sizeOf3
 v3:=Tryz.zeroValue3
 t4:=Tryz.underlying4
 a4:=Tryz.isAgg4
 z4:=Tryz.sizeOf4
 v4:=Tryz.zeroValue4
 t5:=Tryz.underlying5
 a5:=Tryz.isAgg5
 z5:=Tryz.sizeOf5
 v5:=Tryz.zeroValue5
 t9:=Tryz.underlying9
 a9:=Tryz.isAgg9
 z9:=Tryz.sizeOf9
 v9:=Tryz.zeroValue9
 t22:=Tryz.underlying83
 a22:=Tryz.isAgg83
 z22:=Tryz.sizeOf83
 v22:=Tryz.zeroValue83
 t25:=Tryz.underlying155
 a25:=Tryz.isAgg155
 z25:=Tryz.sizeOf155
 v25:=Tryz.zeroValue155
 t39:=Tryz.underlying188
 a39:=Tryz.isAgg188
 z39:=Tryz.sizeOf188
 v39:=Tryz.zeroValue188
 t45:=Tryz.underlying212
 a45:=Tryz.isAgg212
 z45:=Tryz.sizeOf212
 v45:=Tryz.zeroValue212
 t46:=Tryz.underlying213
 a46:=Tryz.isAgg213
 z46:=Tryz.sizeOf213
 v46:=Tryz.zeroValue213
 t50:=Tryz.underlying217
 a50:=Tryz.isAgg217
 z50:=Tryz.sizeOf217
 v50:=Tryz.zeroValue217
 t53:=Tryz.underlying220
 a53:=Tryz.isAgg220
 z53:=Tryz.sizeOf220
 v53:=Tryz.zeroValue220
 t55:=Tryz.underlying190
 a55:=Tryz.isAgg190
 z55:=Tryz.sizeOf190
 v55:=Tryz.zeroValue190
 t66:=Tryz.underlying233
 a66:=Tryz.isAgg233
 z66:=Tryz.sizeOf233
 v66:=Tryz.zeroValue233
 t70:=Tryz.underlying237
 a70:=Tryz.isAgg237
 z70:=Tryz.sizeOf237
 v70:=Tryz.zeroValue237
 t76:=Tryz.underlying248
 a76:=Tryz.isAgg248
 z76:=Tryz.sizeOf248
 v76:=Tryz.zeroValue248
 t77:=Tryz.underlying62
 a77:=Tryz.isAgg62
 z77:=Tryz.sizeOf62
 v77:=Tryz.zeroValue62 }
def Tryz.cmpInt_ren:Go.Shelf.Ren:=⟨fun | 5=>97 | 7=>132 | n=>n,fun | 22=>3 | 3=>3 | 4=>4 | n=>n,fun | n=>n⟩
theorem Tryz.cmpInt:Go.Proofs.SlLaysC2.n5 Tryz.prog Tryz.cmpInt_ren:={
 mixed:=by kernel_rfl
 f5:=⟨Tryz.f97.name,by decide,Tryz.func97.trans (congrArg some (by kernel_rfl))⟩
 f7:=⟨Tryz.f132.name,by decide,Tryz.func132.trans (congrArg some (by kernel_rfl))⟩
 t3:=Tryz.underlying3
 a3:=Tryz.isAgg3
 z3:=Tryz.sizeOf3
 v3:=Tryz.zeroValue3
 t4:=Tryz.underlying4
 a4:=Tryz.isAgg4
 z4:=Tryz.sizeOf4
 v4:=Tryz.zeroValue4
 t22:=Tryz.underlying3
 a22:=Tryz.isAgg3
 z22:=Tryz.sizeOf3
 v22:=Tryz.zeroValue3 }
theorem Tryz.cmp97 (x y:Int) (w:World):Calls Tryz.prog 97 #[.int .i64 x,.int .i64 y] w fun e w'=>e=.returned (.int .i64 (Lib.compareInt x y))/\w'=w:=AnyG.cmp_Compare_int Tryz.cmpInt x y w
theorem Tryz.or96n (x:Int) (b:Nat) (w:World) (h0:w.cell? ⟨b,0,none⟩=some (.int .i64 x)) (hx:(x != 0)=true):Calls Tryz.prog 96 #[.slice (some ⟨b,0,none⟩) 2 2] w fun e w'=>e=.returned (.int .i64 x)/\w'=w:=by
 go_enter Tryz.func96,Tryz.ntmps96
 go_wp2
 refine wp_loop_rounds 1 ?_
 rw [rounds_succ]
 go_wp2
 go_ret
 exact ⟨rfl,rfl⟩
theorem Tryz.or96z (y:Int) (b:Nat) (w:World) (h0:w.cell? ⟨b,0,none⟩=some (.int .i64 0)) (h1:w.cell? ⟨b,1,none⟩=some (.int .i64 y)) (hy:(y != 0)=true):Calls Tryz.prog 96 #[.slice (some ⟨b,0,none⟩) 2 2] w fun e w'=>e=.returned (.int .i64 y)/\w'=w:=by
 go_enter Tryz.func96,Tryz.ntmps96
 go_wp2
 refine wp_loop_rounds 2 ?_
 rw [rounds_succ]
 go_wp2
 rw [rounds_succ]
 go_wp2
 go_ret
 exact ⟨rfl,rfl⟩
theorem Tryz.or96zz (b:Nat) (w:World) (h0:w.cell? ⟨b,0,none⟩=some (.int .i64 0)) (h1:w.cell? ⟨b,1,none⟩=some (.int .i64 0)):Calls Tryz.prog 96 #[.slice (some ⟨b,0,none⟩) 2 2] w fun e w'=>e=.returned (.int .i64 0)/\w'=w:=by
 go_enter Tryz.func96,Tryz.ntmps96
 go_wp2
 refine wp_loop_rounds 3 ?_
 rw [rounds_succ]
 go_wp2
 rw [rounds_succ]
 go_wp2
 rw [rounds_succ]
 go_wp2
 go_ret
 exact ⟨rfl,rfl⟩
def Tryz.orI (x y:Int):Int:=if x=0 then y else x
theorem Tryz.cellA {w:World} {cs:Array Value} {t:TypeId} {n j:Nat} {u:Value} (hn:n=w.heap.size) (h:cs[j]? = some u):(w.alloc (.cells cs t)).cell? ⟨n,j,none⟩=some u:=by
 subst hn
 simp only [World.cell?,(MapKept.heap_alloc w (.cells cs t)).1]
 simpa using h
theorem Tryz.or96 (x y:Int) (b:Nat) (w:World) (h0:w.cell? ⟨b,0,none⟩=some (.int .i64 x)) (h1:w.cell? ⟨b,1,none⟩=some (.int .i64 y)):Calls Tryz.prog 96 #[.slice (some ⟨b,0,none⟩) 2 2] w fun e w'=>e=.returned (.int .i64 (Tryz.orI x y))/\w'=w:=by
 unfold Tryz.orI
 by_cases hx:x=0
 ·subst hx
  rw [if_pos rfl]
  by_cases hy:y=0
  ·subst hy; exact Tryz.or96zz b w h0 h1
  ·exact Tryz.or96z y b w h0 h1 (by simpa using hy)
 ·rw [if_neg hx]; exact Tryz.or96n x b w h0 (by simpa using hx)
def Tryz.slJ (x:Nat × Nat × Nat):Value:=.slice (some ⟨x.1,0,none⟩) x.2.1 x.2.2
def Tryz.encJ (x:(Int × Int) × Nat × Nat × Nat):List Value:=[.int .i64 x.1.1,.int .i64 x.1.2,Tryz.slJ x.2]
def Tryz.cmpJ (x y:(Int × Int) × Nat × Nat × Nat):Int:=Tryz.orI (Lib.compareInt x.1.1 y.1.1) (Lib.compareInt x.1.2 y.1.2)
set_option maxHeartbeats 2000000 in
theorem Tryz.cl95 (x1 y1 x2 y2:Int) (v1 v2:Value) (W:World):Calls Tryz.prog 95 #[.agg #[.int .i64 x1,.int .i64 y1,v1],.agg #[.int .i64 x2,.int .i64 y2,v2]] W fun e w'=>e=.returned (.int .i64 (Tryz.orI (Lib.compareInt x1 x2) (Lib.compareInt y1 y2)))/\∃ q os',w'=grow (W.drewN q) os':=by
 have c97:=Tryz.cmp97
 have c96:∀ (x y:Int) (n:Nat) (w:World),n=w.heap.size->Calls Tryz.prog 96 #[.slice (some ⟨n,0,none⟩) 2 2] (w.alloc (.cells #[.int .i64 x,.int .i64 y] 3)).drew fun e w'=>e=.returned (.int .i64 (Tryz.orI x y))/\w'=(w.alloc (.cells #[.int .i64 x,.int .i64 y] 3)).drew:=fun x y n w hn=>Tryz.or96 x y n _ ((rfl:(World.drew _).cell? _=_).trans (Tryz.cellA hn rfl)) ((rfl:(World.drew _).cell? _=_).trans (Tryz.cellA hn rfl))
 go_enter Tryz.func95,Tryz.ntmps95
 go_wp2
 go_region_held3 (fun w'=>w'.cell? ⟨W.heap.size,0,none⟩=some (.int .i64 x1)/\w'.cell? ⟨W.heap.size,1,none⟩=some (.int .i64 y1)/\w'.cell? ⟨W.heap.size+1,0,none⟩=some (.int .i64 x2)/\w'.cell? ⟨W.heap.size+1,1,none⟩=some (.int .i64 y2)) (go_keep)
  (first | (go_at_call 97; refine (c97 _ _ _).mono ?_; rintro e w' ⟨rfl,rfl⟩) | (go_at_call 96; refine (c96 _ _ _ _ ?_).mono ?_; (simp); rintro e w' ⟨rfl,rfl⟩))
 all_goals go_wp2
 all_goals go_ret
 all_goals exact ⟨rfl,1,#[.cells #[.int .i64 x1,.int .i64 y1,v1] 87,.cells #[.int .i64 x2,.int .i64 y2,v2] 87,.cells #[.int .i64 (Lib.compareInt x1 x2),.int .i64 (Lib.compareInt y1 y2)] 3],by rw [alloc_eq_grow,alloc_eq_grow,alloc_eq_grow,grow_grow,grow_grow]; rfl⟩
theorem Tryz.cmpLays95 (blk off size:Nat) (w:World):CmpLays Tryz.prog 95 #[] Tryz.encJ 3 Tryz.cmpJ blk off size w:=fun _ _ _ _ x y=>Tryz.cl95 x.1.1 x.1.2 y.1.1 y.1.2 (Tryz.slJ x.2) (Tryz.slJ y.2) _
end Go.Proofs
namespace Go.Dx
open Go.Sx Go.Proofs Go.Jn Go.Sort
section
variable {ct:aX} (hT:aW Tryz.prog eqs its ct) {B:bm} {F:Fence} {n:Nat} {Q:Exit->Act->World->Prop} {a:Act} {w:World} {r:Nat}
include hT
theorem Is (hF:Go.Sx.Open F) {E:Es} {M:Mp} (hE:E.length<=1000000000) (hs:VX B 81 [] [] [(11,.slice none 0 0),(5,.map (some r))] (FrS E bU) [] a w) (hm:MQ B r E M bU w)
 (hQ:∀ a' w' v A,VX B 81 [] [] [(11,v)] (fun q=>FrS E bU q ∨ v.ownBlock=some q) [] a' w'->MQ B r E M bU w'->w'.ownsRow 0 87 3 v A.length (dK A)->(∀ q,v.ownBlock=some q->¬ FrS E bU q)->(A.map fun x=>(x.1,bp M x.1)).Perm (M.filter fun e=>decide (1 < e.2.length))->(∀ x ∈ A,x ∈ E)->Q .normal a' w'):(Code.seq (.region 17 lz false) (.block 4 (.loop D3))).wpIn F n Tryz.prog Q a w:=by
 obtain ⟨q1,q2,q3,q4,q5,q6,q7,q8⟩:=p17
 refine wpIn_seq (wpIn_region ?_)
 rw [show List.range lz.size=[0,1] by kernel_rfl]
 refine co (v:=.map (some r)) hF q1 q2 (by rw [i4 (.inl q4),aK (d:=5) (hs.at_raw (v:=.map (some r)) (by simp))]) ?_
 rw [q3]
 have s1:=hs.raw (d:=59) (by decide) (bh rfl) (.map (some r))
 refine co hF q5 q6 (Kb q8 (aK (s1.at_raw (List.mem_cons_self ..))) hm.hp) ?_
 rw [q7]
 have hga:w.grownBy (w.alloc (.mapIter (some r) E.length #[] E.length)) none:=World.grownBy_alloc _ _ _
 have s2:=(((s1.cut (e':=[]) trivial).drop (G':=[(11,.slice none 0 0)]) (by simp)).grow hga (fun q hq=>by cases hq) (Fr':=fun q=>FrS E bU q ∨ (Value.slice none 0 0).ownBlock=some q) fun q hq=>.inl (hq.elim id fun e=>by cases e)).raw (d:=60) (by decide) (bh rfl) (.pointer (some ⟨w.heap.size,0,none⟩))
 have hr:r < w.heap.size:=(Array.getElem?_eq_some_iff.1 hm.hp).1
 have kpa:∀ q,q < w.heap.size->(w.alloc (.mapIter (some r) E.length #[] E.length)).heap[q]? = w.heap[q]? := fun q hq=>hga.block q hq (by simp)
 have lts:∀ q,FrS E bU q->q < w.heap.size:=fun q ⟨z,z1,z2,z3⟩=>by obtain ⟨cs,hc⟩:=(hm.row z z1 z2).blk z3; exact (Array.getElem?_eq_some_iff.1 hc).1
 have hm2:MQ B r E M bU (w.alloc (.mapIter (some r) E.length #[] E.length)):=⟨(kpa r hr).trans hm.hp,hm.key,hm.nd,fun z hz hS=>(hm.row z hz hS).keep fun q hq=>kpa q (lts q ⟨z,hz,hS,hq⟩),hm.ne,hm.dis,hm.z0,hm.zf⟩
 show Code.wpIn F n Tryz.prog _ _ _ _
 refine wpIn_block (dn (I:=fun k a w=>∃ v ri seen c0,k=(leftOf (entE E 0).toArray seen).size/\LX B r E M v ri seen c0 a w) ⟨_,.slice none 0 0,w.heap.size,#[],E.length,rfl,(s2.cut (e':=[]) trivial),hm2,(MapKept.heap_alloc w _).1,Nat.le_refl _,s1.size.1,s1.size.2,by omega,⟨rfl,.inl ⟨rfl,rfl⟩⟩,(fun q hq=>by cases hq),by simp,by simp⟩ ?_)
 rintro k a' w' ⟨v,ri,seen,c0,rfl,H⟩
 refine HJ hT hF hE H (fun a2 w2 v' seen' c0' hlt H'=>⟨_,hlt,v',ri,seen',c0',rfl,H'⟩) fun a2 w2 H hall h2 e2=>?_
 subst e2
 show Exit.inBlock 4 Q (.exit 4) a2 w2
 simp only [Exit.inBlock,if_true]
 refine hQ a2 w2 v (jM E M seen.toList) h2 H.mq H.al H.aq (Bh H.mq.key (by rw [← H.mq.key]; exact H.mq.nd) H.sn (fun b=>⟨H.sb b,hall b⟩) rfl) fun x hx=>?_
 unfold jM at hx
 obtain ⟨b,hb,hx⟩:=List.mem_filterMap.1 (List.mem_filter.1 hx).1
 exact List.mem_of_getElem? hx
end
abbrev A3:=List (Pt × Nat × Nat × Nat)
theorem pQ (x y:Pt × Nat × Nat × Nat):ltOf Tryz.cmpJ x y=Go.Jn.lt x.1 y.1:=by
 unfold ltOf Tryz.cmpJ Tryz.orI Lib.compareInt
 rw [Bool.eq_iff_iff,lg,decide_eq_true_eq]
 by_cases h1:x.1.1 < y.1.1
 ·simp [h1]
 ·by_cases h2:y.1.1 < x.1.1
  ·simp [h1,h2]; omega
  ·have e:x.1.1=y.1.1:=by omega
   by_cases h3:x.1.2 < y.1.2
   ·simp [e,h3]
   ·by_cases h4:y.1.2 < x.1.2 <;> simp [e,h3,h4]
theorem Re:SWO (ltOf Tryz.cmpJ) where
 irrefl x:=by rw [pQ,lt_irrefl]
 trans x y z h1 h2:=by rw [pQ] at *; exact Go.Jn.lt_trans h1 h2
 ntrans x y z h1 h2:=by rw [pQ] at *; exact Bs h2 h1
def tvJ (A:A3):Es:=A.map fun x=>(x.1,Tryz.slJ x.2)
theorem DL:∀ {A:Es},(∀ x ∈ A,∃ q n c,x.2=.slice (some ⟨q,0,none⟩) n c)->∃ A0,A=tvJ A0
 | [],_=>⟨[],rfl⟩
 | x::A,h=>by
   obtain ⟨A0,h0⟩:=DL (A:=A) fun y hy=>h y (List.mem_cons_of_mem _ hy)
   obtain ⟨q,n,c,e⟩:=h x (List.mem_cons_self ..)
   exact ⟨(x.1,q,n,c)::A0,by rw [h0]; simp only [tvJ,List.map_cons,Tryz.slJ,← e]⟩
theorem kV:∀ (A:A3) (j:Nat),j < 3 * A.length->(dK (tvJ A))[j]? = some ((Tryz.encJ (A[j / 3]!))[j % 3]!)
 | [],j,h=>by simp at h
 | x::A,0,h=>rfl
 | x::A,1,h=>rfl
 | x::A,2,h=>rfl
 | x::A,j+3,h=>by
   have ih:=kV A j (by simp at h; omega)
   have e1:(j+3) / 3=j / 3+1:=by omega
   have e2:(j+3) % 3=j % 3:=by omega
   rw [e1,e2,List.getElem!_cons_succ,← ih]
   simp [dK,tvJ]
theorem qJ (A:Es):(dK A).length=A.length * 3:=by
 induction A with
 | nil=>rfl
 | cons x A ih=>simp only [dK,List.flatMap_cons,List.length_append,List.length_cons,List.length_nil] at *; omega
def uJ:Unr:=fun _=>1000
noncomputable def Fu:aX:=[(130,.inl PJ uJ),(152,.inl Qw uJ),(131,.inl Fx uJ),(161,.inl HO uJ)]
theorem Oe:aW Tryz.prog eqs its Fu:=.inl Tryz.func130 (by kernel_rfl) (by kernel_rfl) (by kernel_rfl) (.inl Tryz.func152 (by kernel_rfl) (by kernel_rfl) (by kernel_rfl) (.inl Tryz.func131 (by kernel_rfl) (by kernel_rfl) (by kernel_rfl) (.inl Tryz.func161 (by kernel_rfl) (by kernel_rfl) (by kernel_rfl) (.nil))))
def Oq:List Ty:=[.sl [.int .i64,.int .i64,.sl [.int .i64]],.fn 95 [] []]
theorem Kj (w0:World) (f:Nat->List V):sat (bK w0 (SV Fu)) (aZ JJ Fu uJ s94 [.sl 0 f,.fn 95 [] []]) (lA (.tup [])):=rC (by kernel_rfl)
def isZ:Nat->Prop
 | 0=>True
 | _+1=>False
theorem JZ:∀ {n:Nat},isZ n->n=0
 | 0,_=>rfl
 | _+1,h=>h.elim
def C94:aJ:=mkC Oq (fun
 | [.sl n _,_]=>isZ n
 | _=>False) fun _=>.tup []
theorem Qr:(vP C94).Ok Tryz.prog 94:=y6 (J:=JJ) (un:=uJ) Oe hE hI Tryz.func94 (by kernel_rfl) (by kernel_rfl) (by kernel_rfl) rfl (fun w0 ds hp=>by
 have hp:ap (hdV ds)=0:=JZ hp
 show sat _ (aZ JJ Fu uJ s94 [.sl (ap (hdV ds)) _,.fn 95 [] []]) _
 rw [hp]
 exact Kj w0 _)
def f83:Nat->List V:=fun _=>ak [.int .i64,.int .i64,.sl [.int .i64]] []
theorem K1 (w:World):Calls Tryz.prog 94 #[.slice none 0 0,.func (.func 95) #[] #[]] w fun e w'=>∃ v,e=.returned v/\w.grownBy w' none:=by
 have h:=Qr.sound ⟨w,w,fun _=>False,[]⟩ (fun _=>none) [] w [.slice none 0 0,.fn (.func 95) [] []] [.slice none 0 0,.func (.func 95) #[] #[]] (fun _ _=>True) (aw.start w) (by simp only [af,vrel,bN]; exact ⟨_,_,rfl,⟨none,rfl,rfl⟩,_,_,rfl,⟨#[],#[],rfl,rfl,rfl⟩,rfl⟩) ⟨[.sl 0 f83,.fn 95 [] []],_,_,_,by
  simp only [vrs,vr]
  exact ⟨_,_,rfl,⟨none,0,0,rfl,Nat.le_refl _,Nat.zero_le _,trivial,fun i hi=>absurd hi (Nat.not_lt_zero _)⟩,_,_,rfl,⟨[],[],rfl,rfl,rfl⟩,rfl⟩,rfl,⟨rfl,trivial⟩,rfl,trivial⟩
 exact h.2.mono fun e w' ⟨v,r,m',lh',he,_,_,hh,_⟩=>⟨v,he,hh.os,hh.tape,hh.output,hh.fsize,fun k hk _=>hh.old k hk⟩
theorem wz {F : Fence} {n : Nat} {ops : Array Oper} {Q : Exit -> Act -> World -> Prop} {rest : List Nat} {k : Nat} {o : Oper} {c : Call} {f : FuncId} {fn : Func} {i : IOp} {a : Act} {w : World} {R : Value -> World -> Prop} {args : Array Value} (hF : Go.Sx.Open F) (ho : ops[k]? = some o) (hg : o.guard = none) (hop : o.op = .call c) (hcc : dU Tryz.prog eqs o = some i) (hc : c.callee = .value (.func f)) (hf : Tryz.prog.funcs[f]? = some fn) (hn : (fn.name == "runtime.NumGoroutine") = false) (hb : fn.body.isNone = false)
 (ha:(c.args.toList.map a.eval).toArray=args) (hcall:Calls Tryz.prog f args w fun e w'=>∃ v,e=.returned v/\R v w') (h:∀ v w',R v w'->wpOpsIn F n Tryz.prog ops Q rest (a.put o.dst v) w'):wpOpsIn F n Tryz.prog ops Q (k::rest) a w:=by
 simp only [wpOpsIn,ho]
 rw [if_pos (by simp [Region.wanted,hg])]
 subst ha
 refine d5 hF hcc (.inr (.inr ⟨f,_,?_,hcall⟩)) h
 simp only [execOp,hop]
 rw [aa (a:={ target:=.fn (.func f) #[],args:=#[]++c.args.map a.eval }) (w':=w) (by simp only [resolve,hc,Act.eval]; rfl)]
 simp only [invoke,callFunc]
 rw [aa (a:=Tryz.prog) (w':=w) rfl,hf]
 simp only [hn,hb,Bool.false_eq_true,if_false]
 have:#[]++c.args.map a.eval++#[]=(c.args.toList.map a.eval).toArray:=by
  apply Array.toList_inj.1; simp
 rw [this]; rfl
def G8 (cur:Array Value) (i:Nat) (x:Pt × Value):Prop:=cur[3 * i]? = some (.int .i64 x.1.1)/\cur[3 * i+1]? = some (.int .i64 x.1.2)/\cur[3 * i+2]? = some x.2
structure LZ (w:World) (u:Value) (A:Es) (blk cap:Nat) (cur:Array Value):Prop where
 u:u=.slice (some ⟨blk,0,none⟩) A.length cap
 hp:w.heap[blk]? = some (.cells cur 87 (0,0))
 sz:cur.size=cap * 3
 le:A.length<=cap
 row:∀ i x,A[i]? = some x->G8 cur i x
theorem tw {w:World} {blk n:Nat} {d:Array (Pt × Nat × Nat × Nat)} {os:Array Obj} {k:Nat} (hk:k < w.heap.size):(sortWorldK Tryz.encJ 3 w blk 0 n d os).heap[k]? = if blk=k then (w.heap[k]?).map (onCells (putCells id 0 (flatK Tryz.encJ 3 d))) else w.heap[k]? := by
 show (_++os)[k]? = _
 have hs:(putRowK Tryz.encJ 3 (Sort.ahead w n) blk 0 d).heap.size=w.heap.size:=Go.Proofs.size_putRow _ _ _ _ _
 rw [Array.getElem?_append_left (by rw [hs]; exact hk)]
 show (Array.modify w.heap blk _)[k]? = _
 rw [Array.getElem?_modify]
theorem JO {w:World} {v:Value} {A:A3} {blk:Nat} (hv:w.ownsRow 0 87 3 v A.length (dK (tvJ A))) (hb:v.ownBlock=some blk) (hA:A.length<=1000000000):∃ cap,v=.slice (some ⟨blk,0,none⟩) A.length cap /\
 Calls Tryz.prog 94 #[v,.func (.func 95) #[] #[]] w fun e w'=>∃ u,e=.returned u/\w.grownBy w' (some blk)/\∃ A' cur,A'.Perm A/\(A'.Pairwise fun x y=>Go.Jn.lt y.1 x.1=false)/\LZ w' v (tvJ A') blk cap cur:=by
 rcases hv.2 with ⟨e1,_⟩ | ⟨g,cap,cur,rfl,h1,h2,h3,h4,h5,h6⟩
 ·rw [e1] at hb; cases hb
 cases hb
 refine ⟨cap,rfl,?_⟩
 have hg:g < w.heap.size:=(Array.getElem?_eq_some_iff.1 h2).1
 have hH:HoldsK Tryz.encJ 3 w g 0 A.toArray:=by
  intro j hj
  rw [size_flatK] at hj
  have hj':j < 3 * A.length:=by simpa [Nat.mul_comm] using hj
  have hc:=kV A j hj'
  rw [← h6] at hc
  refine ⟨?_,by simp [World.frozen?,h2]⟩
  simp only [World.cell?,h2,Nat.zero_add]
  rw [List.getElem?_take,if_pos (by omega)] at hc
  rw [get_flatK _ _ _ _ hj]
  simpa using hc
 have hcon:=AnyQ.slices_SortFunc Tryz.sortJ 3 (fun w=>by kernel_rfl) (fun w=>by kernel_rfl) Tryz.encJ (fun _=>rfl) (fun x v hv=>by simp only [Tryz.encJ,List.mem_cons,List.not_mem_nil,or_false] at hv; rcases hv with rfl | rfl | rfl <;> rfl) Tryz.cmpJ Re 95 #[] g 0 cap A.toArray w (enters_of Tryz.func95 (by kernel_rfl) rfl) (Tryz.cmpLays95 g 0 _ w) hH hg (by simp; omega)
 have e94:Tryz.sortJ_ren.f 6=94:=rfl
 rw [e94] at hcon
 refine hcon.mono fun e w' ⟨he,d',m,os,hp,hs,hw⟩=>⟨_,he,?_,d'.toList,?_⟩
 ·subst hw
  exact ⟨rfl,rfl,rfl,by simp [sortWorldK,grow,putRowK],fun k hk hne=>by rw [tw hk,if_neg (fun e=>hne (by rw [e]))]⟩
 ·have hsz:d'.size=A.length:=by simpa using hp.1
  have hperm:d'.toList.Perm A:=by
   have:=hp.2.2
   have e1:(d'.extract 0 A.toArray.size).toList=d'.toList:=by simp [← hsz]
   have e2:(A.toArray.extract 0 A.toArray.size).toList=A:=by simp
   rwa [e1,e2] at this
  have hH':HoldsK Tryz.encJ 3 w' g 0 d':=by
   rw [hw]
   exact holdsK_sortWorldK_c _ _ _ _ _ A.toArray d' m os hH hg hp.1
  refine ⟨putCells id 0 (flatK Tryz.encJ 3 d') cur,hperm,?_,?_⟩
  ·rw [List.pairwise_iff_getElem]
   intro i j hi hj hij
   have:=hs i j (Nat.zero_le _) hij (by simpa [← hsz] using hj)
   rw [pQ,getElem!_pos d' i (by simpa using hi),getElem!_pos d' j (by simpa using hj)] at this
   simpa using this
  ·have hhp:w'.heap[g]? = some (.cells (putCells id 0 (flatK Tryz.encJ 3 d') cur) 87 (0,0)):=by
    rw [hw,tw hg,if_pos rfl,h2]; rfl
   refine ⟨by simp [tvJ,hsz],hhp,by simp [putCells,h5],by simp [tvJ,hsz]; omega,fun i x hx=>?_⟩
   simp only [tvJ,List.getElem?_map,Array.getElem?_toList] at hx
   cases hdi:d'[i]? with
   | none=>rw [hdi] at hx; cases hx
   | some z =>
     rw [hdi] at hx
     simp only [Option.map_some,Option.some.injEq] at hx
     subst hx
     have hi:i < d'.size:=(Array.getElem?_eq_some_iff.1 hdi).1
     have hz:d'[i]! = z:=by rw [getElem!_pos d' i hi]; exact (Array.getElem?_eq_some_iff.1 hdi).2
     have key:∀ c,c < 3->(putCells id 0 (flatK Tryz.encJ 3 d') cur)[3 * i+c]? = some (Tryz.encJ z)[c]! := fun c hc=>by
      have:=(hH'.cell hi hc).1
      simp only [World.cell?,hhp,Nat.zero_add,Option.isSome_none,Bool.false_eq_true,if_false,hz] at this
      rw [Nat.mul_comm 3 i]; exact this
     exact ⟨key 0 (by decide),key 1 (by decide),key 2 (by decide)⟩
end Go.Dx
namespace Go.Dx
open Go.Sx Go.Proofs Go.Jn
noncomputable def ctW:aX:=[(44,.con BY)]
theorem yW:aW Tryz.prog eqs its ctW:=.con zp (.nil)
noncomputable def x0:=xsO jo0.toList jo0
noncomputable def x1:=xsO jo1.toList jo1
noncomputable def x2:=xsO jo2.toList jo2
noncomputable def x3:=xsO jo3.toList jo3
noncomputable def x5:=xsO jo5.toList jo5
abbrev scL (n0:Nat) (f0:Nat->List V) (n2:Nat) (f2:Nat->List V) (n4:Nat) (f4:Nat->List V) (n6:Nat) (f6:Nat->List V):List V:=[.sl n0 (elV tyR f0),.sl n2 (elV tyT f2),.sl n4 (elV tyF f4),.sl n6 (elV tyC f6)]
abbrev FU:Ty:=.agg [.sl tyR,.sl tyT,.sl tyF,.sl tyC]
section
variable (n0:Nat) (f0:Nat->List V) (n2:Nat) (f2:Nat->List V) (n4:Nat) (f4:Nat->List V) (n6:Nat) (f6:Nat->List V)
def ei:Int:=F44 n0 f0 n2 f2 n4 f4 n6 f6 0 zI
theorem t0:tr ctW x0 [(0,.agg (scL n0 f0 n2 f2 n4 f4 n6 f6))] []=.ret ([(3,.int .i64 0),(2,.ns),(1,.pl 0 0),(0,.agg (scL n0 f0 n2 f2 n4 f4 n6 f6))],[.cells (scL n0 f0 n2 f2 n4 f4 n6 f6) 27]):=by kernel_rfl
theorem t1:tr ctW x1 [(1,.pl 0 0)] [.cells (scL n0 f0 n2 f2 n4 f4 n6 f6) 27]=.obq (gZ [FU,.sl [.int .i64]] (ak [FU,.sl [.int .i64]] [.agg [.sl n0 f0,.sl n2 f2,.sl n4 f4,.sl n6 f6],.sl 0 fun _=>[]]) []) (hZ [FU,.sl [.int .i64]] (ak [FU,.sl [.int .i64]] [.agg [.sl n0 f0,.sl n2 f2,.sl n4 f4,.sl n6 f6],.sl 0 fun _=>[]]) []) (.obp ((bc n0 (elV tyR f0)/\bc n6 (elV tyC f6))/\0 % 2=0/\0<=100) (.ob true (.ret ([(4,.int .i64 (ei n0 (elV tyR f0) n2 (elV tyT f2) n4 (elV tyF f4) n6 (elV tyC f6))),(15,.int .i64 (ei n0 (elV tyR f0) n2 (elV tyT f2) n4 (elV tyF f4) n6 (elV tyC f6))),(14,.agg (scL n0 f0 n2 f2 n4 f4 n6 f6)),(1,.pl 0 0)],[.cells (scL n0 f0 n2 f2 n4 f4 n6 f6) 27])))):=by kernel_rfl
theorem t2 (e:Int) (h:List O):tr ctW x2 [(4,.int .i64 e),(1,.pl 0 0)] h=.ret ([(17,.bool (e != 0)),(16,.int .i64 e),(4,.int .i64 e),(1,.pl 0 0)],h):=by kernel_rfl
theorem t3 (e:Int):tr ctW x3 [(4,.int .i64 e)] []=.ret ([(3,.int .i64 e),(2,.ns),(18,.int .i64 e),(4,.int .i64 e)],[]):=by kernel_rfl
theorem t5:tr ctW x5 [(1,.pl 0 0)] [.cells (scL n0 f0 n2 f2 n4 f4 n6 f6) 27]=.asm (true=true->n0<=9223372036854775807) (.ret ([(23,.int .i64 0),(22,.int .i64 (n0:Int)),(21,.sl n0 (elV tyR f0)),(20,.pl 0 0),(1,.pl 0 0)],[.cells (scL n0 f0 n2 f2 n4 f4 n6 f6) 27])):=by kernel_rfl
theorem Qt:bg Tryz.prog eqs jo0 jo0.toList=some x0/\bQ 81 x0=true:=⟨by kernel_rfl,by kernel_rfl⟩
theorem P3:bg Tryz.prog eqs jo1 jo1.toList=some x1/\bQ 81 x1=true:=⟨by kernel_rfl,by kernel_rfl⟩
theorem RN:bg Tryz.prog eqs jo2 jo2.toList=some x2/\bQ 81 x2=true:=⟨by kernel_rfl,by kernel_rfl⟩
theorem Rj:bg Tryz.prog eqs jo3 jo3.toList=some x3/\bQ 81 x3=true:=⟨by kernel_rfl,by kernel_rfl⟩
theorem PA:bg Tryz.prog eqs jo5 jo5.toList=some x5/\bQ 81 x5=true:=⟨by kernel_rfl,by kernel_rfl⟩
theorem P8 (m:Value):okG [(5,m)] x5=true:=by kernel_rfl
theorem mi:∀ xs:List SOp,okG [] xs=true
 | []=>rfl
 | o::l=>by
   rcases j7 [] o with e | ⟨_,_,_,_,_,_,e,_⟩
   ·simp [okG,Ii,e,mi l]
   ·simp [qq] at e
end
noncomputable def oMk:Oper:=oo jo4 0
theorem IJ:jo4[0]? = some oMk/\oMk.guard=none/\oMk.dst=some 19/\oMk.op=.makeMap 152 none:=⟨by kernel_rfl,by kernel_rfl,by kernel_rfl,by kernel_rfl⟩
theorem p4:jo4[1]? = some (oo jo4 1)/\(oo jo4 1).guard=none/\(oo jo4 1).dst=some 5/\(oo jo4 1).op=.assign (.tmp 19):=⟨by kernel_rfl,by kernel_rfl,by kernel_rfl,by kernel_rfl⟩
theorem p16:wN[0]? = some (oo wN 0)/\(oo wN 0).guard=none/\(oo wN 0).dst=some 11/\(oo wN 0).op=.assign (.const (.slice none 0 0)):=⟨by kernel_rfl,by kernel_rfl,by kernel_rfl,by kernel_rfl⟩
theorem p22:kt[0]? = some (oo kt 0)/\(oo kt 0).guard=none/\(oo kt 0).dst=some 78/\(oo kt 0).op=.move (.tmp 11)/\kt[1]? = some (oo kt 1)/\(oo kt 1).guard=none/\(oo kt 1).dst=some 79/\(oo kt 1).op=.call { callee:=.value (.func 94),args:=#[.tmp 78,.func 95],argTypes:=#[83,155] }:=⟨by kernel_rfl,by kernel_rfl,by kernel_rfl,by kernel_rfl,by kernel_rfl,by kernel_rfl,by kernel_rfl,by kernel_rfl⟩
noncomputable def i22:IOp:=(dU Tryz.prog eqs (oo kt 1)).getD (.new 0 [])
theorem c22:dU Tryz.prog eqs (oo kt 1)=some i22:=by kernel_rfl
theorem p23:ip[0]? = some (oo ip 0)/\(oo ip 0).guard=none/\(oo ip 0).dst=some 80/\(oo ip 0).op=.move (.tmp 11)/\ip[1]? = some (oo ip 1)/\(oo ip 1).guard=none/\(oo ip 1).dst=some 2/\(oo ip 1).op=.assign (.tmp 80)/\ip[2]? = some (oo ip 2)/\(oo ip 2).guard=none/\(oo ip 2).dst=some 3/\(oo ip 2).op=.assign (.const (.int .i64 0)):=⟨by kernel_rfl,by kernel_rfl,by kernel_rfl,by kernel_rfl,by kernel_rfl,by kernel_rfl,by kernel_rfl,by kernel_rfl,by kernel_rfl,by kernel_rfl,by kernel_rfl,by kernel_rfl⟩
theorem Jr {o:Oper} {ro:Option Nat} {ρ:Operand->Value} {w:World} (ho:o.op=.makeMap 152 none):(o.semAt ro ρ).run Tryz.prog w=.ok (.value (.map (some w.heap.size))) (w.alloc (.map #[] 0)):=by
 rw [Oper.semAt_eq _ _ _ (fun c h=>by rw [ho] at h; cases h)]
 unfold execOp
 rw [ho]
 exact iZ (run_makeMap_plain _ 152)
noncomputable def DP:Code:=.seq (.region 0 jo0 false) (.seq (.seq (.region 1 jo1 false) (.seq (.region 2 jo2 false) (.cond (.tmp 17) (.seq (.region 3 jo3 false) .ret) .skip)))
 (.seq (.region 4 jo4 false) (.seq (.seq (.region 5 jo5 false) (.block 0 (.loop A2))) (.seq (.region 16 wN false) (.seq (.seq (.region 17 lz false) (.block 4 (.loop D3))) (.seq (.region 22 kt false) (.seq (.region 23 ip false) .ret)))))))
def E1 (w0 w:World) (u:Value) (L:List J):Prop:=(u=.slice none 0 0/\L=[]) ∨ ∃ (blk cap:Nat) (cur:Array Value) (A:A3),LZ w u (tvJ A) blk cap cur/\w0.heap.size<=blk/\(A.map (·.1))=L.map (·.1)/\(A.map (·.2.1)).Nodup/\∀ (i:Nat) (x:Pt × Nat × Nat × Nat) (y:J),A[i]? = some x->L[i]? = some y->ku w (Tryz.slJ x.2) y.2/\w0.heap.size<=x.2.1
theorem qg (nR:Nat) (f:Nat->List V) (hn:nR<=8) (hp:∀ i,i < nR->jpL f i<=8):(bB nR f).flatten.length<=64:=by
 have key:∀ l:List Nat,(∀ i ∈ l,jpL f i<=8)->((l.map fun i=>cV (jpL f i) (jpF f i)).flatten).length<=8 * l.length:=by
  intro l
  induction l with
  | nil=>intro _; simp
  | cons a l ih =>
    intro h
    have h1:=h a (List.mem_cons_self ..)
    have h2:=ih fun i hi=>h i (List.mem_cons_of_mem _ hi)
    simp only [List.map_cons,List.flatten_cons,List.length_append,List.length_cons]
    have:(cV (jpL f a) (jpF f a)).length=jpL f a:=by simp [cV]
    omega
 have:=key (List.range nR) fun i hi=>hp i (List.mem_range.1 hi)
 simp only [List.length_range] at this
 unfold bB
 omega
theorem EB (P:List (List Pt)):(mapJ P).length<=P.flatten.length:=by
 have h1:=(l7 P).nd
 have h2:∀ x ∈ (mapJ P).map (·.1),x ∈ P.flatten:=fun x hx=>by
  obtain ⟨e,he,rfl⟩:=List.mem_map.1 hx
  exact ((xn P e).1 he).1
 have key:∀ (l m:List Pt),l.Nodup->(∀ x ∈ l,x ∈ m)->l.length<=m.length:=by
  intro l
  induction l with
  | nil=>intro m _ _; simp
  | cons a l ih =>
    intro m hn hm
    have ha:=hm a (List.mem_cons_self ..)
    have:=ih (m.erase a) (List.nodup_cons.1 hn).2 fun x hx=>by
     have hxa:x ≠ a:=fun e=>(List.nodup_cons.1 hn).1 (e ▸ hx)
     exact (List.mem_erase_of_ne hxa).2 (hm x (List.mem_cons_of_mem _ hx))
    rw [List.length_erase_of_mem ha] at this
    have hp:=List.length_pos_of_mem ha
    simp only [List.length_cons]; omega
 have:=key _ _ h1 h2
 simpa using this
theorem KI {B:bm} {F:Fence} {n:Nat} {Q:Exit->Act->World->Prop} {a:Act} {w:World} {r:Nat} (hF:Go.Sx.Open F) {E:Es} {M:Mp} {v:Value} {A:Es} (hA:A.length<=1000000000) (hs:VX B 81 [] [] [(11,v)] (fun q=>FrS E bU q ∨ v.ownBlock=some q) [] a w) (hm:MQ B r E M bU w) (hv:w.ownsRow 0 87 3 v A.length (dK A)) (hq:∀ q,v.ownBlock=some q->¬ FrS E bU q) {P:List (List Pt)} (hM:M=mapJ P) (hp:(A.map fun x=>(x.1,bp M x.1)).Perm (M.filter fun e=>decide (1 < e.2.length))) (hAE:∀ x ∈ A,x ∈ E)
 (hQ:∀ a' w' u,a'.tmps[2]? = some u->a'.tmps[3]? = some (.int .i64 0)->a'.defers=[]->(∃ m lh,aw B m lh w')->E1 B.w0 w' u (rH P)->Q .ret a' w'):(Code.seq (.region 22 kt false) (.seq (.region 23 ip false) .ret)).wpIn F n Tryz.prog Q a w:=by
 obtain ⟨q1,q2,q3,q4,q5,q6,q7,q8⟩:=p22
 refine wpIn_seq (wpIn_region ?_)
 rw [show List.range kt.size=[0,1] by kernel_rfl]
 refine co (v:=v) (w':=w) hF q1 q2 (by rw [i4 (.inl q4),aK (d:=11) (hs.at_raw (v:=v) (by simp))]) ?_
 rw [q3]
 have s1:=hs.raw (d:=78) (by decide) (bh rfl) v
 -- the end
 have fin:∀ a1 w1,VX B 81 [] [] [(11,v)] (fun _=>False) [] a1 w1->E1 B.w0 w1 v (rH P)->(Code.seq (.region 23 ip false) .ret).wpIn F n Tryz.prog Q a1 w1:=fun a1 w1 h1 ho=>by
  obtain ⟨c1,c2,c3,c4,c5,c6,c7,c8,c9,c10,c11,c12⟩:=p23
  refine wpIn_seq (wpIn_region ?_)
  rw [show List.range ip.size=[0,1,2] by kernel_rfl]
  refine co (v:=v) (w':=w1) hF c1 c2 (by rw [i4 (.inl c4),aK (d:=11) (h1.at_raw (v:=v) (by simp))]) ?_
  rw [c3]
  have h2:=h1.raw (d:=80) (by decide) (bh rfl) v
  refine co (v:=v) (w':=w1) hF c5 c6 (by rw [i4 (.inr c8),aK (d:=80) (h2.at_raw (v:=v) (by simp))]) ?_
  rw [c7]
  have h3:=h2.raw (d:=2) (by decide) (bh rfl) v
  refine co (v:=.int .i64 0) (w':=w1) hF c9 c10 (by rw [i4 (.inr c12)]; rfl) ?_
  rw [c11]
  have h4:=h3.raw (d:=3) (by decide) (bh rfl) (.int .i64 0)
  show Code.wpIn F n Tryz.prog _ _ _ _
  have hd:((((a1.put (some 80) v).put (some 2) v).put (some 3) (.int .i64 0))).defers=[]/\∃ m lh,aw B m lh w1:=by
   obtain ⟨m,sl,lh,ν,nV,nS,g1,g2,g3,_⟩:=h4
   exact ⟨g2,m,lh,g3⟩
  exact wpIn_ret (hQ _ _ v (h4.at_raw (by simp)) (h4.at_raw (by simp)) hd.1 hd.2 ho)
 have hrow:∀ x ∈ A,ku w x.2 (bp M x.1)/\bp M x.1 ≠ []:=fun x hx=>⟨hm.row x (hAE x hx) trivial,hm.ne x (hAE x hx)⟩
 have hsl:∀ x ∈ A,∃ q k c,x.2=.slice (some ⟨q,0,none⟩) k c:=fun x hx=>by
  rcases (hrow x hx).1 with ⟨_,e⟩ | ⟨q,c,vs,e,_⟩
  ·exact ((hrow x hx).2 e).elim
  ·exact ⟨q,_,c,e⟩
 obtain ⟨A0,rfl⟩:=DL hsl
 have hkeyN:(A0.map (·.1)).Nodup:=by
  have h1:((mapJ P).map (·.1)).Nodup:=(l7 P).nd
  have h2:=(hp.map (·.1)).nodup_iff.2 (by rw [hM]; exact h1.sublist ((List.filter_sublist).map _))
  simpa [tvJ,Function.comp_def] using h2
 cases hb:v.ownBlock with
 | none =>
   have e0:v=.slice none 0 0/\(tvJ A0).length=0:=by
    rcases hv.2 with h | ⟨g,cap,cur,rfl,_⟩
    ·exact h
    ·cases hb
   obtain ⟨rfl,h0⟩:=e0
   have hA0:A0=[]:=by simpa [tvJ] using h0
   subst hA0
   refine wz hF q5 q6 q8 c22 rfl Tryz.func94 (by kernel_rfl) (by kernel_rfl) (args:=#[.slice none 0 0,.func (.func 95) #[] #[]]) ?_ (K1 w) fun u w' hg=>?_
   ·simp only [List.map_cons,List.map_nil]
    rw [aK (d:=78) (s1.at_raw (v:=.slice none 0 0) (by simp))]
    rfl
   rw [q7]
   have s2:=(((s1.cut (e':=[]) trivial).drop (G':=[(11,.slice none 0 0)]) (by simp)).grow hg (fun q hq=>by cases hq) (Fr':=fun _=>False) fun q hq=>hq.elim).raw (d:=79) (by decide) (bh rfl) u
   refine fin _ _ ((s2.cut (e':=[]) trivial).drop (by simp)) (.inl ⟨rfl,?_⟩)
   have:=sN (P:=P) (L:=[]) (by rw [← hM]; simpa [tvJ] using hp) List.Pairwise.nil
   exact this.symm
 | some blk =>
   have hlenA:(tvJ A0).length=A0.length:=by simp [tvJ]
   rw [hlenA] at hv hA
   obtain ⟨cap,hve,hc⟩:=JO hv hb hA
   refine wz hF q5 q6 q8 c22 rfl Tryz.func94 (by kernel_rfl) (by kernel_rfl) (args:=#[v,.func (.func 95) #[] #[]]) ?_ hc fun u w' ⟨hg,A',cur,hperm,hsort,hjr⟩=>?_
   ·simp only [List.map_cons,List.map_nil]
    rw [aK (d:=78) (s1.at_raw (v:=v) (by simp))]
    rfl
   rw [q7]
   have s2:=(((s1.cut (e':=[]) trivial).drop (G':=[(11,v)]) (by simp)).grow hg (fun q hq=>.inr (by rw [hb]; exact hq)) (Fr':=fun _=>False) fun q hq=>hq.elim).raw (d:=79) (by decide) (bh rfl) u
   refine fin _ _ ((s2.cut (e':=[]) trivial).drop (by simp)) (.inr ⟨blk,cap,cur,A',hjr,(hs.frs (q:=blk) (.inr hb)).2.1,?_⟩)
   have hL:(tvJ A').map (fun x=>(x.1,bp M x.1))=rH P:=by
    refine sN (P:=P) ?_ ?_
    ·rw [← hM]; exact ((hperm.map _).map _).trans hp
    ·simp only [tvJ,List.map_map,List.pairwise_map,Function.comp]
     exact hsort
   have hmem:∀ x ∈ A',(x.1,Tryz.slJ x.2) ∈ tvJ A0:=fun x hx=>List.mem_map.2 ⟨x,hperm.mem_iff.1 hx,rfl⟩
   have hne:∀ q,FrS E bU q->q ≠ blk:=fun q hf e=>by subst e; exact hq q hb hf
   refine ⟨?_,?_,fun i x y hx hy=>?_⟩
   ·rw [← hL]; simp [tvJ,Function.comp_def]
   ·have hkn:(A'.map (·.1)).Nodup:=(hperm.map (·.1)).nodup_iff.2 hkeyN
    unfold List.Nodup at hkn ⊢
    rw [List.pairwise_iff_getElem] at hkn ⊢
    intro i j hi hj hij he
    rw [List.length_map] at hi hj
    refine hkn i j (by simpa using hi) (by simpa using hj) hij ?_
    rw [List.getElem_map,List.getElem_map] at he ⊢
    have m1:=hAE _ (hmem _ (List.getElem_mem hi))
    have m2:=hAE _ (hmem _ (List.getElem_mem hj))
    exact hm.dis _ m1 _ m2 trivial trivial (by simp only [Tryz.slJ,Value.ownBlock,he])
   ·have hxm:=List.mem_of_getElem? hx
    have hxE:=hAE _ (hmem x hxm)
    have hfr:FrS E bU x.2.1:=⟨_,hxE,trivial,rfl⟩
    have hlt:=hs.frs (q:=x.2.1) (.inl hfr)
    rw [← hL,tvJ,List.map_map,List.getElem?_map,hx] at hy
    simp only [Option.map_some,Function.comp,Option.some.injEq] at hy
    subst hy
    exact ⟨(hm.row _ hxE trivial).keep fun q hq'=>hg.block q (by cases hq'; exact hlt.1) fun e=>hne q (by cases hq'; exact hfr) (by simpa using e),hlt.2.1⟩
def tyJ:List Ty:=[.int .i64,.int .i64,.sl [.int .i64]]
abbrev dJ:J:=((0,0),[])
def elJ (L:List J):Nat->List V:=fun i=>[.int .i64 (L.getD i dJ).1.1,.int .i64 (L.getD i dJ).1.2,.sl (L.getD i dJ).2.length (lF (L.getD i dJ).2)]
theorem vrJ {w0:World} {z:List ac} {L:List J} {K c:Nat} {cs:List ab} {ty:TypeId} (hz:z[K]? = some (.cells cs ty)) (hc:L.length<=c) (hm:L.length<=9223372036854775807) (hrow:∀ (i:Nat) (y:J),L[i]? = some y->∃ (b ci:Nat) (xa:List ab) (ty':TypeId),(cs.drop (i * 3)).take 3=[.int .i64 y.1.1,.int .i64 y.1.2,.slice (some (.l b 0)) y.2.length ci]/\i * 3+3<=cs.length/\y.2.length<=ci/\y.2.length<=9223372036854775807/\z[b]? = some (.cells xa ty')/\∀ j,j < y.2.length->xa[j]? = some (.int .i64 ((y.2.getD j 0:Nat):Int))) :
 vr w0 z Nu.nil (.sl L.length (elV tyJ (elJ L))) (.slice (some (.l K 0)) L.length c):=by
 simp only [vr]
 refine ⟨_,c,3,rfl,hc,hm,⟨cs,ty,hz,Nat.zero_le _⟩,fun i hi=>?_⟩
 have hy:L[i]? = some (L.getD i dJ):=by simp [List.getD,List.getElem?_eq_getElem hi]
 obtain ⟨b,ci,xa,ty',h1,h2,h3,h4,h5,h6⟩:=hrow i _ hy
 refine ⟨.l K 0,[.int .i64 (L.getD i dJ).1.1,.int .i64 (L.getD i dJ).1.2,.slice (some (.l b 0)) (L.getD i dJ).2.length ci],rfl,?_,?_,rfl⟩
 ·simp only [Ptr.add,lds,hz,Nat.zero_add]
  rw [if_pos h2,h1]
 ·show vrs w0 z Nu.nil [.int .i64 (L.getD i dJ).1.1,.int .i64 (L.getD i dJ).1.2,.sl (L.getD i dJ).2.length (elV [.int .i64] (lF (L.getD i dJ).2))] _
  simp only [vrs,vr]
  refine ⟨_,_,rfl,rfl,_,_,rfl,rfl,_,_,rfl,⟨_,ci,1,rfl,h3,h4,⟨xa,ty',h5,Nat.zero_le _⟩,fun j hj=>?_⟩,rfl⟩
  have hx:=h6 j hj
  have hjl:=(List.getElem?_eq_some_iff.1 hx).1
  refine ⟨.l b 0,[.int .i64 (((L.getD i dJ).2.getD j 0:Nat):Int)],rfl,?_,?_,rfl⟩
  ·simp only [Ptr.add,lds,h5,Nat.zero_add,Nat.mul_one]
   rw [if_pos (by omega),List.drop_eq_getElem_cons hjl]
   simp only [List.take_succ_cons,List.take_zero,(List.getElem?_eq_some_iff.1 hx).2]
  ·show vrs w0 z Nu.nil [.int .i64 (((L.getD i dJ).2.getD j 0:Nat):Int)] _
   simp only [vrs,vr]
   exact ⟨_,_,rfl,rfl,rfl⟩
def lU:Nat->List J->List Nat->List ab
 | k,y::L,c::cs=>.int .i64 y.1.1::.int .i64 y.1.2::.slice (some (.l k 0)) y.2.length c::lU (k+1) L cs
 | _,_,_=>[]
theorem pZ:∀ {L:List J} {cs:List Nat} {k i:Nat} {y:J} {c:Nat},L[i]? = some y->cs[i]? = some c->((lU k L cs).drop (i * 3)).take 3=[.int .i64 y.1.1,.int .i64 y.1.2,.slice (some (.l (k+i) 0)) y.2.length c]/\i * 3+3<=(lU k L cs).length
 | y::L,c::cs,k,0,_,_,h1,h2=>by
   simp at h1 h2; subst h1; subst h2
   simp [lU]
 | y::L,c::cs,k,i+1,_,_,h1,h2=>by
   obtain ⟨e1,e2⟩:=pZ (L:=L) (cs:=cs) (k:=k+1) (i:=i) (by simpa using h1) (by simpa using h2)
   refine ⟨?_,by simp only [lU,List.length_cons]; omega⟩
   rw [show (i+1) * 3=i * 3+3 by omega]
   simp only [lU,List.drop_succ_cons]
   rw [show k+(i+1)=k+1+i by omega]
   exact e1
 | [],_,_,_,_,_,h1,_=>by simp at h1
 | _::_,[],_,_,_,_,_,h2=>by simp at h2
theorem KY (L:List J) (e:Int) (hm:L.length<=9223372036854775807) (hl:∀ y ∈ L,y.2.length<=9223372036854775807):okN (.tup [.sl L.length (elV tyJ (elJ L)),.int .i64 e]):=fun w0 lh=>by
 let inn:List ac:=L.map fun y=>.cells (y.2.map fun (i:Nat)=>ab.int .i64 i) 3
 let outB:List ab:=lU lh.length L (L.map fun y=>y.2.length)
 have hi:inn.length=L.length:=by simp [inn]
 have hz:(List.replicate lh.length ac.dead++(inn++[.cells outB 87]))[lh.length+L.length]? = some (.cells outB 87):=by
  rw [List.getElem?_append_right (by simp),List.getElem?_append_right (by simp [hi])]
  simp [hi]
 refine ⟨.tup [.slice (some (.l (lh.length+L.length) 0)) L.length L.length,.int .i64 e],inn++[.cells outB 87],?_⟩
 simp only [vr]
 refine ⟨_,rfl,?_⟩
 simp only [vrs]
 refine ⟨_,_,rfl,vrJ hz (Nat.le_refl _) hm fun i y hy=>?_,_,_,rfl,by simp only [vr],rfl⟩
 have hlt:=(List.getElem?_eq_some_iff.1 hy).1
 obtain ⟨g1,g2⟩:=pZ (k:=lh.length) hy (show (L.map fun y=>y.2.length)[i]? = some y.2.length by simp [hy])
 refine ⟨lh.length+i,y.2.length,y.2.map fun (i:Nat)=>ab.int .i64 i,3,g1,g2,Nat.le_refl _,hl y (List.mem_of_getElem? hy),?_,fun j hj=>?_⟩
 ·rw [List.getElem?_append_right (by simp),List.getElem?_append_left (by simp [hi]; exact hlt)]
  simp [inn,hy]
 ·simp [List.getD,List.getElem?_eq_getElem hj]
theorem tC {m:ao} {xs:List ab} {vs:List Value} {n:Nat} (h:af m xs (vs.take n)) (hn:xs.length=n):af m (xs++List.replicate (vs.drop n).length .any) vs:=by
 have:=bC h (i8 (m:=m) (vs.drop n))
 rwa [List.take_append_drop] at this
theorem o7 {B:bm} {w w':World} (hB0:B.w0.heap.size<=w.heap.size) (hBf:B.wf.heap.size<=w.heap.size):∀ (A:A3) (L:List J) (m0:ao) (lh0:List ac),A.length=L.length->aw B m0 lh0 w'->(A.map (·.2.1)).Nodup->(∀ (i:Nat) (x:Pt × Nat × Nat × Nat) (y:J),A[i]? = some x->L[i]? = some y->ku w' (Tryz.slJ x.2) y.2/\w.heap.size<=x.2.1)->(∀ x ∈ A,∀ k,m0 k ≠ some x.2.1) ->
 ∃ m1 news,aw B m1 (lh0++news) w'/\m0.le m1/\news.length=A.length/\(∀ k q,m1 k=some q->m0 k=some q ∨ ∃ x ∈ A,x.2.1=q)/\(∀ k,k < lh0.length->m1 k=m0 k)/\∀ (i:Nat) (x:Pt × Nat × Nat × Nat) (y:J),A[i]? = some x->L[i]? = some y->m1 (lh0.length+i)=some x.2.1/\y.2.length=x.2.2.1/\y.2.length<=x.2.2.2/\∃ xa,news[i]? = some (.cells xa 3)/\∀ j,j < y.2.length->xa[j]? = some (.int .i64 ((y.2.getD j 0:Nat):Int))
 | [],[],m0,lh0,_,hr,_,_,_=>⟨m0,[],by rwa [List.append_nil],ao.le_refl _,rfl,fun k q h=>.inl h,fun _ _=>rfl,fun i x y h=>by simp at h⟩
 | x :: A,y::L,m0,lh0,hlen,hr,hn,hrow,hfr=>by
   simp only [List.map_cons,List.nodup_cons] at hn
   obtain ⟨r1,r2⟩:=hrow 0 x y rfl rfl
   rcases r1 with ⟨e1,_⟩ | ⟨q,c,vs,e1,e2,e3,e4,e5⟩
   ·simp [Tryz.slJ] at e1
   simp only [Tryz.slJ,Value.slice.injEq,Option.some.injEq,Addr.mk.injEq,and_true] at e1
   obtain ⟨e6,e7,e8⟩:=e1
   subst e6
   have hvs:af (fun k=>if k=lh0.length then some x.2.1 else m0 k) (y.2.map (fun (i:Nat)=>ab.int .i64 i)++List.replicate (vs.toList.drop y.2.length).length .any) vs.toList :=
    tC (by rw [e5]; exact kY _ _) (by simp)
   obtain ⟨k1,k2⟩:=nf hr e2 hvs (Nat.le_trans hB0 r2) (Nat.le_trans hBf r2) (fun k b' hk e=>hfr x (List.mem_cons_self ..) k (by rw [hk,e]))
   obtain ⟨m1,news,h1,h2,h3,h4,h6,h5⟩:=o7 hB0 hBf A L _ _ (by simpa using hlen) k1 hn.2 (fun i x' y' hx hy=>hrow (i+1) x' y' (by simpa using hx) (by simpa using hy)) (fun x' hx' k hk=>by
    split at hk
    ·exact hn.1 (List.mem_map.2 ⟨x',hx',(Option.some.inj hk).symm⟩)
    ·exact hfr x' (List.mem_cons_of_mem _ hx') k hk)
   refine ⟨m1,.cells (y.2.map (fun (i:Nat)=>ab.int .i64 i)++List.replicate (vs.toList.drop y.2.length).length .any) 3::news,?_,ao.le_trans k2 h2,by simp [h3],fun k q hk=>?_,fun k hk=>by rw [h6 k (by simp; omega)]; exact if_neg (by omega),fun i x' y' hx hy=>?_⟩
   ·rw [List.append_assoc] at h1; exact h1
   ·rcases h4 k q hk with g | ⟨x',g1,g2⟩
    ·split at g
     ·cases g; exact .inr ⟨x,List.mem_cons_self ..,rfl⟩
     ·exact .inl g
    ·exact .inr ⟨x',List.mem_cons_of_mem _ g1,g2⟩
   ·cases i with
    | zero =>
      simp at hx hy; subst hx; subst hy
      refine ⟨by rw [Nat.add_zero]; exact h2 _ _ (by simp),e7.symm,by omega,_,rfl,fun j hj=>?_⟩
      rw [List.getElem?_append_left (by simpa using hj)]
      simp [List.getD,List.getElem?_eq_getElem hj]
    | succ i =>
      obtain ⟨g1,g2⟩:=h5 i x' y' (by simpa using hx) (by simpa using hy)
      rw [List.length_append,List.length_singleton] at g1
      exact ⟨by rw [show lh0.length+(i+1)=lh0.length+1+i by omega]; exact g1,by simpa using g2⟩
 | [],_::_,_,_,h,_,_,_,_=>by simp at h
 | _::_,[],_,_,h,_,_,_,_=>by simp at h
theorem xA {m:ao}:∀ (A:A3) (L:List J) (k:Nat),A.length=L.length->(∀ (i:Nat) (x:Pt × Nat × Nat × Nat) (y:J),A[i]? = some x->L[i]? = some y->x.1=y.1/\m (k+i)=some x.2.1/\y.2.length=x.2.2.1)->af m (lU k L (A.map (·.2.2.2))) (dK (tvJ A))
 | [],[],_,_,_=>by simp [lU,dK,tvJ,af]
 | x::A,y::L,k,hl,h=>by
   obtain ⟨h1,h2,h3⟩:=h 0 x y rfl rfl
   have ih:=xA A L (k+1) (by simpa using hl) fun i x' y' hx hy=>by
    have:=h (i+1) x' y' (by simpa using hx) (by simpa using hy)
    rwa [show k+(i+1)=k+1+i by omega] at this
   have e:dK (tvJ (x::A))=.int .i64 x.1.1::.int .i64 x.1.2::Tryz.slJ x.2::dK (tvJ A):=rfl
   rw [e]
   simp only [List.map_cons,lU,af,vrel,bN]
   exact ⟨_,_,rfl,by rw [h1],_,_,rfl,by rw [h1],_,_,rfl,⟨_,by rw [h3]; rfl,x.2.1,h2,rfl⟩,ih⟩
 | [],_::_,_,h,_=>by simp at h
 | _::_,[],_,h,_=>by simp at h
theorem xK {cur:Array Value} {A:A3} (h:∀ i x,(tvJ A)[i]? = some x->G8 cur i x):cur.toList.take (A.length * 3)=dK (tvJ A):=by
 apply List.ext_getElem?
 intro j
 rw [List.getElem?_take]
 by_cases hj:j < A.length * 3
 ·rw [if_pos hj,kV A j (by omega)]
  have hi:j / 3 < A.length:=by omega
  have hx:(tvJ A)[j / 3]? = some ((A[j / 3]).1,Tryz.slJ (A[j / 3]).2):=by simp [tvJ,hi]
  obtain ⟨c1,c2,c3⟩:=h _ _ hx
  have e:A[j / 3]! = A[j / 3]:=getElem!_pos A _ hi
  rw [e,Array.getElem?_toList]
  have hj3:j=3 * (j / 3)+j % 3:=by omega
  have h3:j % 3 < 3:=Nat.mod_lt _ (by decide)
  generalize j % 3=c at hj3 h3 ⊢
  rw [show cur[j]? = cur[3 * (j / 3)+c]? by rw [← hj3]]
  match c,h3 with
  | 0,_=>exact c1
  | 1,_=>exact c2
  | 2,_=>exact c3
 ·rw [if_neg hj,List.getElem?_eq_none (by rw [qJ]; simp [tvJ]; omega)]
theorem Gp {B:bm} {m:ao} {lh:List ac} {w w':World} (h0:aw B m lh w) (h1:aw B m lh w') {u:Value} {L:List J} (ho:E1 w w' u L) (hm:L.length<=9223372036854775807) (hl:∀ y ∈ L,y.2.length<=9223372036854775807) :
 ∃ x new m',vr B.w0 (List.replicate lh.length .dead++new) Nu.nil (.sl L.length (elV tyJ (elJ L))) x/\vrel m' x u/\Ext lh m (lh++new) m'/\aw B m' (lh++new) w':=by
 rcases ho with ⟨rfl,rfl⟩ | ⟨blk,cap,cur,A,hj,hblk,hk,hn,hrow⟩
 ·refine ⟨.slice none 0 0,[],m,?_,by simp only [vrel,bN]; exact ⟨none,rfl,rfl⟩,by rw [List.append_nil]; exact Ext.refl _ _,by rwa [List.append_nil]⟩
  simp only [vr]
  exact ⟨none,0,0,rfl,Nat.le_refl _,Nat.zero_le _,trivial,fun i hi=>absurd hi (Nat.not_lt_zero _)⟩
 ·have hlen:A.length=L.length:=by have:=congrArg List.length hk; simpa using this
  have hkey:∀ (i:Nat) (x:Pt × Nat × Nat × Nat) (y:J),A[i]? = some x->L[i]? = some y->x.1=y.1:=fun i x y hx hy=>by
   have:=congrArg (fun l=>l[i]?) hk
   simpa [hx,hy] using this
  obtain ⟨m1,news,g1,g2,g3,g4,g6,g5⟩:=o7 h0.size h0.fsize A L m lh hlen h1 hn hrow (fun x hx k hk'=>by
   obtain ⟨i,hi⟩:=List.getElem?_of_mem hx
   have hil:i < L.length:=by rw [← hlen]; exact (List.getElem?_eq_some_iff.1 hi).1
   have:=(hrow i x _ hi (List.getElem?_eq_getElem hil)).2
   have:=h0.rng k _ hk'
   omega)
  have hA3:(tvJ A).length=A.length:=by simp [tvJ]
  have hvs:af (fun k=>if k=(lh++news).length then some blk else m1 k) (lU lh.length L (A.map (·.2.2.2))++List.replicate (cur.toList.drop (A.length * 3)).length .any) cur.toList:=by
   have hrel:=xA (m:=m1) A L lh.length hlen fun i x y hx hy=>⟨hkey i x y hx hy,(g5 i x y hx hy).1,(g5 i x y hx hy).2.1⟩
   have hl3:=bo hrel
   rw [qJ,hA3] at hl3
   have hle:m1.le (fun k=>if k=(lh++news).length then some blk else m1 k):=fun k q hq=>by
    have:k ≠ (lh++news).length:=fun e=>by rw [e,g1.dom _ (Nat.le_refl _)] at hq; cases hq
    simp only [if_neg this]; exact hq
   exact tC (by rw [xK hj.row]; exact bl hle _ _ hrel) hl3.symm
  obtain ⟨k1,k2⟩:=nf g1 hj.hp hvs (Nat.le_trans h0.size hblk) (Nat.le_trans h0.fsize hblk) (fun k q hq e=>by
   subst e
   rcases g4 k q hq with h | ⟨x,hx,rfl⟩
   ·have:=h0.rng k q h; omega
   ·obtain ⟨i,hi⟩:=List.getElem?_of_mem hx
    have hil:i < L.length:=by rw [← hlen]; exact (List.getElem?_eq_some_iff.1 hi).1
    obtain ⟨cs,hcs⟩:=(hrow i x _ hi (List.getElem?_eq_getElem hil)).1.blk rfl
    rw [hj.hp] at hcs; cases hcs)
  have hz:(List.replicate lh.length ac.dead++(news++[.cells (lU lh.length L (A.map (·.2.2.2))++List.replicate (cur.toList.drop (A.length * 3)).length .any) 87]))[(lh++news).length]? = some (.cells (lU lh.length L (A.map (·.2.2.2))++List.replicate (cur.toList.drop (A.length * 3)).length .any) 87):=by
   rw [List.length_append,List.getElem?_append_right (by simp),List.getElem?_append_right (by simp)]
   simp
  refine ⟨.slice (some (.l (lh++news).length 0)) L.length cap,news++[.cells (lU lh.length L (A.map (·.2.2.2))++List.replicate (cur.toList.drop (A.length * 3)).length .any) 87],_,vrJ hz (by rw [← hlen,← hA3]; exact hj.le) hm fun i y hy=>?_,?_,⟨ao.le_trans g2 k2,fun k hk'=>?_⟩,by rw [← List.append_assoc]; exact k1⟩
  ·have hil:i < A.length:=by rw [hlen]; exact (List.getElem?_eq_some_iff.1 hy).1
   have hx:=List.getElem?_eq_getElem hil
   obtain ⟨b1,b2,b3,xa,b4,b5⟩:=g5 i _ y hx hy
   obtain ⟨o1,o2⟩:=pZ (k:=lh.length) hy (show (A.map (·.2.2.2))[i]? = some (A[i]).2.2.2 by simp [hx])
   refine ⟨lh.length+i,(A[i]).2.2.2,xa,3,?_,by rw [List.length_append]; omega,b3,hl y (List.mem_of_getElem? hy),?_,b5⟩
   ·rw [List.drop_append_of_le_length (by omega),List.take_append_of_le_length (by rw [List.length_drop]; omega)]
    exact o1
   ·rw [List.getElem?_append_right (by simp),List.getElem?_append_left (by simp [g3]; exact hil)]
    simpa using b4
  ·simp only [vrel,bN]
   refine ⟨_,by rw [hj.u,hA3,hlen],blk,by simp,rfl⟩
  ·have hlt:=(List.getElem?_eq_some_iff.1 hk').1
   refine ⟨by rw [List.getElem?_append_left hlt]; exact hk',?_⟩
   show (if k=(lh++news).length then some blk else m1 k)=m k
   rw [if_neg (by rw [List.length_append]; omega),g6 k hlt]
theorem VX.at_ns {B:bm} {N:Nat} {e:Env} {h:List O} {G:List (Nat × Value)} {Fr:Nat->Prop} {Pn:List (Nat × Nat × Nat)} {a:Act} {w:World} (hs:VX B N e h G Fr Pn a w) {d:Nat} (hx:cH e d=.ns) (hd:d < N):a.tmps[d]? = some (.slice none 0 0):=by
 obtain ⟨u,c,m,ν,h1,h2,h3⟩:=hs.at_val hx hd
 simp only [vr] at h2
 subst h2
 simp only [vrel,bN] at h3
 obtain ⟨q,rfl,rfl⟩:=h3
 exact h1
def F41_L (n0:Nat) (f0:Nat->List V) (n2:Nat) (f2:Nat->List V) (n4:Nat) (f4:Nat->List V) (n6:Nat) (f6:Nat->List V):List J:=bif ei n0 f0 n2 f2 n4 f4 n6 f6 != 0 then [] else rH (bB n0 f0)
theorem nu {n0:Nat} {f0:Nat->List V} {n2:Nat} {f2:Nat->List V} {n4:Nat} {f4:Nat->List V} {n6:Nat} {f6:Nat->List V} (he:ei n0 (elV tyR f0) n2 (elV tyT f2) n4 (elV tyF f4) n6 (elV tyC f6)=0):n0<=8/\∀ i,i < n0->jpL f0 i<=8:=by
 unfold ei at he
 rw [Fm,nj,nj,nj,nj] at he
 refine ⟨(sM he).l0,fun i hi=>?_⟩
 have hx:ix1 (bA n0 (elV tyR f0) n2 (elV tyT f2) n4 (elV tyF f4) n6 (elV tyC f6)) (i:Int) n0=0:=by
  unfold ix1 Bx
  rw [he,show ((0:Int) == 0)=true from rfl,cond_true,decide_eq_false (by omega),cond_false,decide_eq_false (by omega)]; rfl
 exact (pJ hx).eight
section
variable {B:bm} {F:Fence} {n:Nat} {Q:Exit->Act->World->Prop} {a:Act} {w:World}
theorem Mw (hF:Go.Sx.Open F) (hB:∀ b,¬ B.own b) {n0:Nat} {f0:Nat->List V} {n2:Nat} {f2:Nat->List V} {n4:Nat} {f4:Nat->List V} {n6:Nat} {f6:Nat->List V} (hz:bc n0 (elV tyR f0)/\bc n6 (elV tyC f6)) (hs:VX B 81 [(0,.agg (scL n0 f0 n2 f2 n4 f4 n6 f6))] [] [] (fun _=>False) [] a w)
 (hQ:∀ a' w' u,a'.tmps[2]? = some u->a'.tmps[3]? = some (.int .i64 (ei n0 (elV tyR f0) n2 (elV tyT f2) n4 (elV tyF f4) n6 (elV tyC f6)))->a'.defers=[]->(∃ m lh,aw B m lh w')->E1 B.w0 w' u (F41_L n0 (elV tyR f0) n2 (elV tyT f2) n4 (elV tyF f4) n6 (elV tyC f6))->Q .ret a' w'):DP.wpIn F n Tryz.prog Q a w:=by
 unfold DP
 refine wpIn_seq (gx yW hF (e':=[(1,.pl 0 0)]) (h':=[.cells (scL n0 f0 n2 f2 n4 f4 n6 f6) 27]) Qt (mi _) hs (t0 ..) ⟨(And.intro rfl trivial),rfl⟩ fun a1 w1 h1 k1=>?_)
 generalize he:ei n0 (elV tyR f0) n2 (elV tyT f2) n4 (elV tyF f4) n6 (elV tyC f6)=e at hQ
 refine wpIn_seq (wpIn_seq (gx yW hF (e':=[(4,.int .i64 e),(1,.pl 0 0)]) (h':=[.cells (scL n0 f0 n2 f2 n4 f4 n6 f6) 27]) P3 (mi _) h1 (t1 ..) ⟨dP _ _ _,⟨hz,rfl,by decide⟩,rfl,And.intro (by rw [← he]; rfl) (And.intro rfl trivial),rfl⟩ fun a2 w2 h2 k2=>?_))
 refine wpIn_seq (gx yW hF (e':=[(17,.bool (e != 0)),(4,.int .i64 e),(1,.pl 0 0)]) (h':=[.cells (scL n0 f0 n2 f2 n4 f4 n6 f6) 27]) RN (mi _) h2 (t2 ..) ⟨(And.intro rfl (And.intro rfl (And.intro rfl trivial))),rfl⟩ fun a3 w3 h3 k3=>?_)
 have hb:=h3.at_bool (d:=17) (.inl rfl) (by decide)
 cases hc:e != 0 with
 | true =>
   rw [hc] at hb
   refine wpIn_cond_true (aK hb) ?_
   refine wpIn_seq (gx yW hF (e':=[(3,.int .i64 e),(2,.ns)]) (h':=[]) Rj (mi _) (h3.forget (e':=[(4,.int .i64 e)]) (And.intro (And.intro rfl rfl) trivial)) (t3 e) ⟨(And.intro rfl (And.intro rfl trivial)),rfl⟩ fun a4 w4 h4 k4=>?_)
   have hd:a4.defers=[]/\∃ m lh,aw B m lh w4:=by
    obtain ⟨m,sl,lh,ν,nV,nS,g1,g2,g3,_⟩:=h4
    exact ⟨g2,m,lh,g3⟩
   refine wpIn_ret (hQ a4 w4 _ (h4.at_ns (d:=2) rfl (by decide)) (h4.at_int (d:=3) rfl (by decide)) hd.1 hd.2 (.inl ⟨rfl,?_⟩))
   unfold F41_L
   rw [he,hc]; rfl
 | false =>
   rw [hc] at hb
   have he0:e=0:=by simpa using hc
   obtain ⟨v1,v2⟩:=nu (he.trans he0)
   refine wpIn_cond_false (aK hb) (wpIn_skip ?_)
   refine wpIn_seq (wpIn_region ?_)
   obtain ⟨m1,m2,m3,m4⟩:=IJ
   obtain ⟨q1,q2,q3,q4⟩:=p4
   rw [show List.range jo4.size=[0,1] by kernel_rfl]
   refine co hF m1 m2 (Jr m4) ?_
   rw [m3]
   have hga:w3.grownBy (w3.alloc (.map #[] 0)) none:=World.grownBy_alloc _ _ _
   have h4:=((h3.cut (e':=[(1,.pl 0 0)]) (And.intro rfl trivial)).grow hga (fun q hq=>by cases hq) (Fr':=fun _=>False) fun q hq=>hq.elim).raw (d:=19) (by decide) (bh rfl) (.map (some w3.heap.size))
   refine co (v:=.map (some w3.heap.size)) (w':=w3.alloc (.map #[] 0)) hF q1 q2 (by rw [i4 (.inr q4),aK (d:=19) (h4.at_raw (v:=.map (some w3.heap.size)) (by simp))]) ?_
   rw [q3]
   have h5:=((h4.drop (G':=[]) (by simp)).raw (d:=5) (by decide) (bh rfl) (.map (some w3.heap.size))).cut (e':=[(1,.pl 0 0)]) (And.intro rfl trivial)
   have hm:MQ B w3.heap.size [] [] bU (w3.alloc (.map #[] 0)):=⟨(MapKept.heap_alloc w3 _).1,rfl,by simp,(fun x hx=>by cases hx),(fun x hx=>by cases hx),(fun x hx=>by cases hx),h3.size.1,h3.size.2⟩
   have h5:=h5.less (Fr':=FrS [] bU) fun q ⟨x,hx,_⟩=>by cases hx
   show Code.wpIn F n Tryz.prog _ _ _ _
   refine wpIn_seq (wpIn_seq (gx yW hF (e':=(1,.pl 0 0)::eA (0:Nat) n0 f0) (h':=[.cells (scL n0 f0 n2 f2 n4 f4 n6 f6) 27]) PA (P8 _) h5 (t5 ..) (fun _=>⟨(And.intro rfl (And.intro rfl (And.intro rfl (And.intro rfl trivial)))),rfl⟩) fun a6 w6 h6 k6=>?_))
   have hm6:=hm.keep k6
   refine KO yW hF hB (by omega) (fun i hi=>Nat.le_trans (v2 i hi) (by decide)) (h6.forget (e':=eA (0:Nat) n0 f0) (And.intro (And.intro rfl rfl) (And.intro (And.intro rfl rfl) (And.intro (And.intro rfl rfl) trivial)))) hm6 fun a7 w7 E h7 hm7=>?_
   show Code.wpIn F n Tryz.prog _ _ _ _
   obtain ⟨r1,r2,r3,r4⟩:=p16
   refine wpIn_seq (wpIn_region ?_)
   rw [show List.range wN.size=[0] by kernel_rfl]
   refine co (v:=.slice none 0 0) (w':=w7) hF r1 r2 (by rw [i4 (.inr r4)]; rfl) ?_
   rw [r3]
   have h8:=(h7.raw (d:=11) (by decide) (bh rfl) (.slice none 0 0)).cut (e':=[]) trivial
   have hfl:=qg n0 f0 v1 v2
   have hml:=EB (bB n0 f0)
   have hEl:E.length<=64:=by
    have:=congrArg List.length hm7.key
    simp only [List.length_map] at this
    omega
   show Code.wpIn F n Tryz.prog _ _ _ _
   refine wpIn_seq (Is yW hF (by omega) h8 hm7 fun a9 w9 v A h9 hm9 al9 aq9 hp9 hA9=>?_)
   have hAl:A.length<=64:=by
    have h1:=hp9.length_eq
    have h2:=List.length_filter_le (fun e=>decide (1 < e.2.length)) (mapJ (bB n0 f0))
    simp only [List.length_map] at h1
    omega
   refine KI hF (by omega) h9 hm9 al9 aq9 rfl hp9 hA9 fun a10 w10 u g1 g2 g3 g4 g5=>?_
   refine hQ a10 w10 u g1 (by rw [he0]; exact g2) g3 g4 ?_
   unfold F41_L
   rw [he,hc]; exact g5
end
section
variable (n0:Nat) (f0:Nat->List V) (n2:Nat) (f2:Nat->List V) (n4:Nat) (f4:Nat->List V) (n6:Nat) (f6:Nat->List V)
def dY:Nat:=(F41_L n0 f0 n2 f2 n4 f4 n6 f6).length
def cX:Nat->List V:=elJ (F41_L n0 f0 n2 f2 n4 f4 n6 f6)
end
def vK:List Ty:=[.agg [.sl [.str,.int .i64,.sl [.int .i64,.int .i64],.int .i64],.sl [.int .i64,.int .i64,.int .i64,.int .i64,.int .i64],.sl [.int .i64,.int .i64,.int .i64,.int .i64,.sl [.int .i64,.int .i64,.int .i64,.int .i64]],.sl [.str,.int .i64,.int .i64,.int .i64,.int .i64,.int .i64]]]
def P41:List V->Prop
 | [.agg [.sl n0 f0,.sl n2 f2,.sl n4 f4,.sl n6 f6]]=>bc n0 f0/\bc n6 f6
 | _=>False
def R41:List V->V
 | [.agg [.sl n0 f0,.sl n2 f2,.sl n4 f4,.sl n6 f6]]=>.tup [.sl (dY n0 f0 n2 f2 n4 f4 n6 f6) (elV [.int .i64,.int .i64,.sl [.int .i64]] (cX n0 f0 n2 f2 n4 f4 n6 f6)),.int .i64 (ei n0 f0 n2 f2 n4 f4 n6 f6)]
 | _=>.any
def C41:aJ:=mkC vK P41 R41
theorem Bw:∀ (l m:List Pt),l.Nodup->(∀ x ∈ l,x ∈ m)->l.length<=m.length:=by
 intro l
 induction l with
 | nil=>intro m _ _; simp
 | cons a l ih =>
   intro m hn hm
   have ha:=hm a (List.mem_cons_self ..)
   have:=ih (m.erase a) (List.nodup_cons.1 hn).2 fun x hx=>by
    have hxa:x ≠ a:=fun e=>(List.nodup_cons.1 hn).1 (e ▸ hx)
    exact (List.mem_erase_of_ne hxa).2 (hm x (List.mem_cons_of_mem _ hx))
   rw [List.length_erase_of_mem ha] at this
   have hp:=List.length_pos_of_mem ha
   simp only [List.length_cons]; omega
theorem B6 (n0:Nat) (f0:Nat->List V) (n2:Nat) (f2:Nat->List V) (n4:Nat) (f4:Nat->List V) (n6:Nat) (f6:Nat->List V):(F41_L n0 (elV tyR f0) n2 (elV tyT f2) n4 (elV tyF f4) n6 (elV tyC f6)).length<=64/\∀ y ∈ F41_L n0 (elV tyR f0) n2 (elV tyT f2) n4 (elV tyF f4) n6 (elV tyC f6),y.2.length<=8:=by
 unfold F41_L
 cases hc:ei n0 (elV tyR f0) n2 (elV tyT f2) n4 (elV tyF f4) n6 (elV tyC f6) != 0 with
 | true=>exact ⟨by simp,fun y hy=>by simp at hy⟩
 | false =>
   obtain ⟨v1,v2⟩:=nu (by simpa using hc)
   rw [cond_false,show bB n0 (elV tyR f0)=bB n0 f0 from rfl]
   obtain ⟨r1,r2⟩:=Av (bB n0 f0)
   have hfl:=qg n0 f0 v1 v2
   refine ⟨?_,fun y hy=>?_⟩
   ·have hn:((rH (bB n0 f0)).map (·.1)).Nodup:=by
     unfold List.Nodup
     rw [List.pairwise_map]
     exact r1.imp fun {a b} h e=>by rw [e,lt_irrefl] at h; cases h
    have:=Bw _ _ hn fun x hx=>by
     obtain ⟨e,he,rfl⟩:=List.mem_map.1 hx
     exact ((r2 e).1 he).1
    rw [List.length_map] at this
    omega
   ·rw [((r2 y).1 hy).2.1]
    have:=EQ (bB n0 f0) y.1
    have h2:(bB n0 f0).length=n0:=by simp [bB]
    omega
theorem Lx:∀ ds d p r,C41 ds=some (d,p,r)->d.1=d.2->p->okN r:=fun ds d p r h h1 h2=>by
 simp only [C41,mkC,Option.some.injEq,Prod.mk.injEq] at h
 obtain ⟨rfl,rfl,rfl⟩:=h
 rw [(d6 vK ds [] [] h1).1]
 have hb:=B6 (ap (hdV (aR (hdV ds)))) (atV (hdV (aR (hdV ds)))) (ap (hdV (tlV (aR (hdV ds))))) (atV (hdV (tlV (aR (hdV ds))))) (ap (hdV (tlV (tlV (aR (hdV ds)))))) (atV (hdV (tlV (tlV (aR (hdV ds)))))) (ap (hdV (tlV (tlV (tlV (aR (hdV ds))))))) (atV (hdV (tlV (tlV (tlV (aR (hdV ds)))))))
 exact KY _ _ (Nat.le_trans hb.1 (by decide)) fun y hy=>Nat.le_trans (hb.2 y hy) (by decide)
theorem DJ:Tryz.f41.ntmps=81/\Tryz.f41.results.toList=[.tmp 2,.tmp 3]:=⟨by kernel_rfl,by kernel_rfl⟩
theorem FL {w:World} {vs:List Value} {xs:List ab} {n0:Nat} {f0:Nat->List V} {n2:Nat} {f2:Nat->List V} {n4:Nat} {f4:Nat->List V} {n6:Nat} {f6:Nat->List V} (hz:bc n0 (elV tyR f0)/\bc n6 (elV tyC f6)) (hv:af (fun _=>none) xs vs) (hx:vrs w [] Nu.nil [.agg (scL n0 f0 n2 f2 n4 f4 n6 f6)] xs):Calls Tryz.prog 41 vs.toArray w fun e w'=>∃ u,e=.returned (.tuple #[u,.int .i64 (ei n0 (elV tyR f0) n2 (elV tyT f2) n4 (elV tyF f4) n6 (elV tyC f6))])/\(∃ m lh,aw ⟨w,w,fun _=>False,[]⟩ m lh w')/\E1 w w' u (F41_L n0 (elV tyR f0) n2 (elV tyT f2) n4 (elV tyF f4) n6 (elV tyC f6)):=by
 refine (callsIn_wide (n:=0)).1 (callsIn_of_wp_marks Tryz.func41 vF trivial (Mw sP (B:=⟨w,w,fun _=>False,[]⟩) (n2:=n2) (f2:=f2) (n4:=n4) (f4:=f4) (fun _ h=>h) hz ?_ fun a' w' u g1 g2 g3 g4 g5=>?_))
 ·have hl:=aU hx
  have hl1:xs.length=1:=hl
  refine ⟨fun _=>none,xs++List.replicate (81 - xs.length) .any,[],Nu.nil,0,0,?_,rfl,aw.start w,⟨by simp; omega,fun i=>?_⟩,HR.none w,(fun p hp=>by cases hp),(fun q hq=>hq.elim),(fun x hx=>by cases hx)⟩
  ·rw [DJ.1]
   simp only [Array.toList_append,Array.toList_replicate,List.size_toArray]
   rw [bo hv]
   exact bC (by simpa using hv) (cO _ _)
  ·have:=pF (w0:=w) (j:=0) (i:=i) (rest:=List.replicate (81 - xs.length) .any) hx (fun _ _=>trivial)
   rw [Nat.zero_add] at this
   exact this
 ·show LeavesInM Fence.wide 0 Tryz.prog Tryz.f41 a'.tmps _ a'.defers .returning w'
  rw [g3]
  refine ⟨_,jI (vs:=[u,.int .i64 (ei n0 (elV tyR f0) n2 (elV tyT f2) n4 (elV tyF f4) n6 (elV tyC f6))]) ?_,u,rfl,g4,g5⟩
  rw [DJ.2]
  have e2:a'.tmps.getD 2 undef=u:=by rw [Array.getD_eq_getD_getElem?,g1]; rfl
  have e3:a'.tmps.getD 3 undef=.int .i64 (ei n0 (elV tyR f0) n2 (elV tyT f2) n4 (elV tyF f4) n6 (elV tyC f6)):=by rw [Array.getD_eq_getD_getElem?,g2]; rfl
  simp only [List.mapM_cons,List.mapM_nil]
  rw [aa (a:=a'.tmps.getD 2 undef) (w':=w') rfl,aa (a:=[a'.tmps.getD 3 undef]) (w':=w') rfl,e2,e3]
  rfl
theorem RR:(vN C41).Ok Tryz.prog 41:=by
 refine ⟨fun B m lh w args vs K hrel hargs hsp=>?_,fun _ _ _ _ _ hk ⟨ds,d,p,r,h1,h2,h3,h4,h5⟩=>⟨ds,d,p,r,h1,h2,h3,h4,fun x new hx=>hk _ _ (h5 x new hx)⟩,fun w0 _ lh _ ⟨_,_,_,_,_,_,_,h4,h5⟩=>let ⟨x,new,hx⟩:=h4 w0 lh; h5 x new hx⟩
 obtain ⟨ds,d,p,r,h1,h2,⟨h30,h3⟩,h4,h5⟩:=hsp
 simp only [C41,mkC,Option.some.injEq,Prod.mk.injEq] at h2
 obtain ⟨rfl,rfl,rfl⟩:=h2
 have hty:=(g9 vK ds [] [] rfl h30).1
 rw [(d6 vK ds [] [] h30).1] at h3 h5
 have h1':=dG vK ds args hty h1
 obtain ⟨args',g1,g2⟩:=eT hrel _ args vs h1' hargs
 refine ⟨⟨Tryz.f41,Tryz.func41,by kernel_rfl,by rw [vF]; rfl⟩,?_⟩
 have hb:=B6 (ap (hdV (aR (hdV ds)))) (atV (hdV (aR (hdV ds)))) (ap (hdV (tlV (aR (hdV ds))))) (atV (hdV (tlV (aR (hdV ds))))) (ap (hdV (tlV (tlV (aR (hdV ds)))))) (atV (hdV (tlV (tlV (aR (hdV ds)))))) (ap (hdV (tlV (tlV (tlV (aR (hdV ds))))))) (atV (hdV (tlV (tlV (tlV (aR (hdV ds)))))))
 refine (FL (n0:=ap (hdV (aR (hdV ds)))) (f0:=atV (hdV (aR (hdV ds)))) (n2:=ap (hdV (tlV (aR (hdV ds))))) (f2:=atV (hdV (tlV (aR (hdV ds))))) (n4:=ap (hdV (tlV (tlV (aR (hdV ds)))))) (f4:=atV (hdV (tlV (tlV (aR (hdV ds)))))) (n6:=ap (hdV (tlV (tlV (tlV (aR (hdV ds))))))) (f6:=atV (hdV (tlV (tlV (tlV (aR (hdV ds))))))) h3 g1 g2).mono fun ee w' ⟨u,he,⟨m1,lh1,hr⟩,ho⟩=>?_
 obtain ⟨x,new,m',e1,e2,e3,e4⟩:=Gp hrel (hrel.back hr) ho (Nat.le_trans hb.1 (by decide)) fun y hy=>Nat.le_trans (hb.2 y hy) (by decide)
 refine ⟨_,.tup [x,.int .i64 (ei (ap (hdV (aR (hdV ds)))) (elV tyR (atV (hdV (aR (hdV ds))))) (ap (hdV (tlV (aR (hdV ds))))) (elV tyT (atV (hdV (tlV (aR (hdV ds)))))) (ap (hdV (tlV (tlV (aR (hdV ds)))))) (elV tyF (atV (hdV (tlV (tlV (aR (hdV ds))))))) (ap (hdV (tlV (tlV (tlV (aR (hdV ds))))))) (elV tyC (atV (hdV (tlV (tlV (tlV (aR (hdV ds)))))))))],m',lh++new,he,?_,e3,e4,h5 _ new ?_⟩
 ·simp only [vrel,af]
  exact ⟨_,rfl,_,_,rfl,e2,_,_,rfl,rfl,rfl⟩
 ·show vr B.w0 _ Nu.nil (.tup [.sl _ _,.int .i64 _]) _
  simp only [vr,vrs]
  exact ⟨_,rfl,_,_,rfl,e1,_,_,rfl,rfl,rfl⟩
end Go.Dx
namespace Go.Dx
open Go.IntKind (i64 u64 u8)
open Go.Sx Go.Proofs
noncomputable section
def qQ:aX:=[(40,.con C40),(41,.conN C41 Lx),(37,.conL 1 3 C37 Kn),(38,.conL 1 3 C38 NX),(39,.conL 1 3 C39 Ou),(90,.con J9),(129,.con zZ),(89,.con C89),(34,.conL 1 3 C34 we),(19,.con C19),(131,.con tb),(19,.con C19),(75,.con C75),(22,.con C22),(15,.con C15),(55,.con C55),(61,.con C61),(74,.con C74),(108,.con xI),(46,.con C46),(111,.con tU),(56,.con C56),(47,.con C47),(145,.con uX),(140,.con ur),(49,.con C49),(123,.con ud),(124,.con vz),(50,.con C50),(44,.con BY),(91,.con C91),(24,.con C24),(23,.con C23),(70,.con C70),(62,.con C62),(68,.con C68),(63,.con C63),(69,.con C69),(117,.inl wg u0),(116,.inl wD u0),(115,.con vc),(114,.con vn),(73,.con C73),(147,.con vd),(64,.con C64),(66,.con C66),(113,.con sd),(65,.con C65),(67,.con C67),(53,.con C53),(122,.con rP),(72,.con C72),(45,.con C45),(119,.con rG),(121,.con rU),(99,.con C99),(148,.con rX),(149,.con su),(112,.con rY),(118,.con rQ),(120,.con sF),(51,.con C51),(133,.con sD),(103,.con sg),(106,.con sk),(100,.con sj),(150,.con rJ),(134,.con rL),(135,.con sB),(137,.con sC),(138,.con rS),(78,.con C78),(54,.con C54),(48,.con C48),(102,.con sw),(84,.con C84),(85,.con C85),(127,.con rR),(101,.con sA),(86,.con C86),(71,.con C71),(93,.con C93),(92,.con C92),(79,.con C79),(136,.con r0),(125,.con sr),(162,.con rZ),(146,.con rT),(83,.inl s83 u0),(42,.inl s42 u0),(98,.inl s98 u0)]
theorem Hx:aW Tryz.prog eqs its qQ:=.con Rw (.conN RR (.conL Pk (.conL O3 (.conL P7 (.con G1 (.con yY (.con GG (.conL Dm (.con qc (.con rm (.con qc (.con Bg (.con y5 (.con xR (.con yn (.con yZ (.con y8 (.con qC (.con xV (.con oI (.con vH (.con wC (.con oM (.con oV (.con wm (.con o8 (.con oJ (.con wk (.con zp (.con vD (.con vE (.con wp (.con wo (.con wq (.con wJ (.con vT (.con wG (.inl Tryz.func117 (by kernel_rfl) (by kernel_rfl) (by kernel_rfl) (.inl Tryz.func116 (by kernel_rfl) (by kernel_rfl) (by kernel_rfl) (.con oG (.con oF (.con wY (.con o0 (.con wW (.con xx (.con mT (.con tR (.con uO (.con tW (.con mI (.con vw (.con uA (.con mC (.con mf (.con uc (.con mz (.con lW (.con mj (.con mH (.con mF (.con tP (.con mN (.con lL (.con lV (.con mX (.con mn (.con mu (.con lG (.con lJ (.con mJ (.con uD (.con tS (.con vl (.con my (.con tQ (.con uw (.con mP (.con mw (.con uU (.con uZ (.con vt (.con ub (.con vm (.con mD (.con lE (.con lD (.con oZ (.inl Tryz.func83 (by kernel_rfl) (by kernel_rfl) (by kernel_rfl) (.inl Tryz.func42 (by kernel_rfl) (by kernel_rfl) (by kernel_rfl) (.inl Tryz.func98 (by kernel_rfl) (by kernel_rfl) (by kernel_rfl) (.nil)))))))))))))))))))))))))))))))))))))))))))))))))))))))))))))))))))))))))))))))))))))))))))
inductive S13 where
 | L0 (ia0:Int) (na1:Nat) (fa2:Nat->List V)
 | L1 (ib0:Int) (nb1:Nat) (fb2:Nat->List V)
 | L2 (ic0 ic1:Int) (nc2:Nat) (fc3:Nat->List V)
 | L9 (ij0:Int) (nj1:Nat) (ij2 ij3:Int) (nj4:Nat) (fj5:Nat->List V) (ij6 ij7:Int) (fj8:Nat->List V)
 | L10 (ik0:Int) (nk1 nk2:Nat) (fk3:Nat->List V) (ik4 ik5:Int) (fk6:Nat->List V) (fk7:Nat->List V) (ik8 ik9:Int)
 | L11 (il0:Int) (bl1:Bool) (il2:Int) (nl3 nl4:Nat) (fl5:Nat->List V) (il6 il7:Int) (fl8:Nat->List V) (fl9:Nat->List V) (il10 il11:Int)
def DT (n0:Nat) (f0:FnV) (n2:Nat) (f2:FnV) (n4:Nat) (f4:FnV) (n6:Nat) (f6:FnV) (x8:Int) (l:List O):List O:=O.cells [V.sl n0 (elV tyR f0),V.sl n2 (elV tyT f2),V.sl n4 (elV tyF f4),V.sl n6 (elV tyC f6)] 27::O.gl 1 (cY n0 (elV tyR f0) n2 (elV tyT f2) n4 (elV tyF f4) n6 (elV tyC f6)) (elV tp1 (dB n0 (elV tyR f0) n2 (elV tyT f2) n4 (elV tyF f4) n6 (elV tyC f6))) 3::O.gl 1 (de n0 (elV tyR f0) n2 (elV tyT f2) n4 (elV tyF f4) n6 (elV tyC f6)) (elV tp1 (dA n0 (elV tyR f0) n2 (elV tyT f2) n4 (elV tyF f4) n6 (elV tyC f6))) 3::O.gl 1 (dk n0 (elV tyR f0) n2 (elV tyT f2) n4 (elV tyF f4) n6 (elV tyC f6) x8) (elV tp1 (dQ n0 (elV tyR f0) n2 (elV tyT f2) n4 (elV tyF f4) n6 (elV tyC f6) x8)) 3::O.gl 1 (dw n0 (elV tyR f0) n2 (elV tyT f2) n4 (elV tyF f4) n6 (elV tyC f6) x8) (elV tp1 (dS n0 (elV tyR f0) n2 (elV tyT f2) n4 (elV tyF f4) n6 (elV tyC f6) x8)) 3::l
def vQ (n0:Nat) (f0:FnV) (n2:Nat) (f2:FnV) (n4:Nat) (f4:FnV) (n6:Nat) (f6:FnV) (x8:Int):S13->Env × List O × Option Ex
 | .L0 ia0 na1 fa2=>([(15,vi ia0),(14,V.gs 0 na1),(13,V.sl (dY n0 (elV tyR f0) n2 (elV tyT f2) n4 (elV tyF f4) n6 (elV tyC f6)) (elV [Ty.int i64,Ty.int i64,Ty.sl tp1] (cX n0 (elV tyR f0) n2 (elV tyT f2) n4 (elV tyF f4) n6 (elV tyC f6))))],[O.gl 3 na1 (elV [Ty.int i64,Ty.int i64,Ty.sl tp1] fa2) 87],none)
 | .L1 ib0 nb1 fb2=>([(6,vi ib0),(5,V.gs 5 nb1),(1,V.pl 6 0)],DT n0 f0 n2 f2 n4 f4 n6 f6 x8 [O.gl 3 nb1 (elV [Ty.int i64,Ty.int i64,Ty.sl tp1] fb2) 87,O.cells [V.sl n0 (elV tyR f0),V.sl n2 (elV tyT f2),V.sl n4 (elV tyF f4),V.sl n6 (elV tyC f6)] 27],none)
 | .L2 ic0 ic1 nc2 fc3=>([(7,vi ic0),(6,vi ic1),(5,V.gs 5 nc2),(1,V.pl 6 0)],DT n0 f0 n2 f2 n4 f4 n6 f6 x8 [O.gl 3 nc2 (elV [Ty.int i64,Ty.int i64,Ty.sl tp1] fc3) 87,O.cells [V.sl n0 (elV tyR f0),V.sl n2 (elV tyT f2),V.sl n4 (elV tyF f4),V.sl n6 (elV tyC f6)] 27],none)
 | .L9 ij0 nj1 ij2 ij3 nj4 fj5 ij6 ij7 fj8=>([(10,vi ij0),(9,V.gs 5 nj1),(8,V.pl 6 0),(7,vi ij2),(6,vi ij3),(5,V.gs 7 nj4),(1,V.pl 8 0)],DT n0 f0 n2 f2 n4 f4 n6 f6 x8 [O.gl 1 nj1 (elV tp1 fj5) 3,O.cells [vi ij6,vi ij7] 72,O.gl 3 nj4 (elV [Ty.int i64,Ty.int i64,Ty.sl tp1] fj8) 87,O.cells [V.sl n0 (elV tyR f0),V.sl n2 (elV tyT f2),V.sl n4 (elV tyF f4),V.sl n6 (elV tyC f6)] 27],none)
 | .L10 ik0 nk1 nk2 fk3 ik4 ik5 fk6 fk7 ik8 ik9=>([(6,vi ik0),(5,V.gs 8 nk1),(3,V.pl 9 0),(2,V.pl 10 0)],DT n0 f0 n2 f2 n4 f4 n6 f6 x8 [O.gl 3 nk2 (elV [Ty.int i64,Ty.int i64,Ty.sl tp1] fk3) 87,O.cells [V.sl n0 (elV tyR f0),V.sl n2 (elV tyT f2),V.sl n4 (elV tyF f4),V.sl n6 (elV tyC f6)] 27,O.cells [vi ik4,vi ik5] 72,O.gl 1 nk1 (elV tp1 fk6) 3,O.cells [vi ik4,vi ik5] 72,O.cells [V.sl n0 (elV tyR f0),V.sl n2 (elV tyT f2),V.sl n4 (elV tyF f4),V.sl n6 (elV tyC f6)] 27],none)
 | .L11 il0 bl1 il2 nl3 nl4 fl5 il6 il7 fl8 fl9 il10 il11=>([(8,vi il0),(7,V.bool bl1),(6,vi il2),(5,V.gs 8 nl3),(3,V.pl 9 0),(2,V.pl 10 0)],DT n0 f0 n2 f2 n4 f4 n6 f6 x8 [O.gl 3 nl4 (elV [Ty.int i64,Ty.int i64,Ty.sl tp1] fl5) 87,O.cells [V.sl n0 (elV tyR f0),V.sl n2 (elV tyT f2),V.sl n4 (elV tyF f4),V.sl n6 (elV tyC f6)] 27,O.cells [vi il6,vi il7] 72,O.gl 1 nl3 (elV tp1 fl8) 3,O.cells [vi il6,vi il7] 72,O.cells [V.sl n0 (elV tyR f0),V.sl n2 (elV tyT f2),V.sl n4 (elV tyF f4),V.sl n6 (elV tyC f6)] 27],none)
def QP:S13->JJ
 | .L0 ia0 na1 fa2=>(0,[])
 | .L1 ib0 nb1 fb2=>(1,[])
 | .L2 ic0 ic1 nc2 fc3=>(2,[])
 | .L9 ij0 nj1 ij2 ij3 nj4 fj5 ij6 ij7 fj8=>(9,[])
 | .L10 ik0 nk1 nk2 fk3 ik4 ik5 fk6 fk7 ik8 ik9=>(10,[Cx.n nk2,Cx.f fk7,Cx.i ik8,Cx.i ik9])
 | .L11 il0 bl1 il2 nl3 nl4 fl5 il6 il7 fl8 fl9 il10 il11=>(11,[Cx.n nl4,Cx.f fl9,Cx.i il10,Cx.i il11])
def Ji (n0:Nat) (f0:FnV) (n2:Nat) (f2:FnV) (n4:Nat) (f4:FnV) (n6:Nat) (f6:FnV) (x8:Int):T (bF JJ):=aZ JJ qQ u0 s13 [scV n0 f0 n2 f2 n4 f4 n6 f6,vi x8]
def EW (n0:Nat) (f0:FnV) (n2:Nat) (f2:FnV) (n4:Nat) (f4:FnV) (n6:Nat) (f6:FnV) (x8:Int) (cx:List Cx):Lp JJ:=lpT (atT (Ji n0 f0 n2 f2 n4 f4 n6 f6 x8) [true,true,false,true,false])
def Cg (n0:Nat) (f0:FnV) (n2:Nat) (f2:FnV) (n4:Nat) (f4:FnV) (n6:Nat) (f6:FnV) (x8:Int) (cx:List Cx):Lp JJ:=lpT (atT (Ji n0 f0 n2 f2 n4 f4 n6 f6 x8) [true,true,false,false])
def Ez (n0:Nat) (f0:FnV) (n2:Nat) (f2:FnV) (n4:Nat) (f4:FnV) (n6:Nat) (f6:FnV) (x8:Int) (cx:List Cx):Lp JJ:=lpT (atT (rdP qQ u0 (1,[]) (Cg n0 f0 n2 f2 n4 f4 n6 f6 x8 []) (vQ n0 f0 n2 f2 n4 f4 n6 f6 x8 (.L1 (0:Int) 0 (fun _=>[])))) [true])
def uv (n0:Nat) (f0:FnV) (n2:Nat) (f2:FnV) (n4:Nat) (f4:FnV) (n6:Nat) (f6:FnV) (x8:Int) (cx:List Cx):Lp JJ:=lpT (atT (rdP qQ u0 (2,[]) (Ez n0 f0 n2 f2 n4 f4 n6 f6 x8 []) (vQ n0 f0 n2 f2 n4 f4 n6 f6 x8 (.L2 (cxi cx 3) (cxi cx 2) (cxn cx 0) (cxf cx 1)))) [true])
def JC (n0:Nat) (f0:FnV) (n2:Nat) (f2:FnV) (n4:Nat) (f4:FnV) (n6:Nat) (f6:FnV) (x8:Int) (cx:List Cx):Lp JJ:=lpT (atT (rdP qQ u0 (10,[.n 0,.f (fun _=>[]),.i (0:Int),.i (0:Int)]) (uv n0 f0 n2 f2 n4 f4 n6 f6 x8 [.n 0,.f (fun _=>[]),.i (0:Int),.i (0:Int)]) (vQ n0 f0 n2 f2 n4 f4 n6 f6 x8 (.L10 (0:Int) 0 0 (fun _=>[]) (0:Int) (0:Int) (fun _=>[]) (fun _=>[]) (0:Int) (0:Int)))) [false,false])
def FF (n0:Nat) (f0:FnV) (n2:Nat) (f2:FnV) (n4:Nat) (f4:FnV) (n6:Nat) (f6:FnV) (x8:Int) (cx:List Cx):Lp JJ:=lpT (atT (rdP qQ u0 (10,[.n (cxn cx 0),.f (cxf cx 1),.i (cxi cx 2),.i (cxi cx 3)]) (uv n0 f0 n2 f2 n4 f4 n6 f6 x8 [.n (cxn cx 0),.f (cxf cx 1),.i (cxi cx 2),.i (cxi cx 3)]) (vQ n0 f0 n2 f2 n4 f4 n6 f6 x8 (.L10 (0:Int) 0 (cxn cx 0) (fun _=>[]) (0:Int) (0:Int) (fun _=>[]) (cxf cx 1) (cxi cx 2) (cxi cx 3)))) [true])
def P0 (n0:Nat) (f0:FnV) (n2:Nat) (f2:FnV) (n4:Nat) (f4:FnV) (n6:Nat) (f6:FnV) (x8:Int):JJ->Lp JJ
 | (0,cx)=>EW n0 f0 n2 f2 n4 f4 n6 f6 x8 cx
 | (1,cx)=>Cg n0 f0 n2 f2 n4 f4 n6 f6 x8 cx
 | (2,cx)=>Ez n0 f0 n2 f2 n4 f4 n6 f6 x8 cx
 | (9,cx)=>JC n0 f0 n2 f2 n4 f4 n6 f6 x8 cx
 | (10,cx)=>uv n0 f0 n2 f2 n4 f4 n6 f6 x8 cx
 | (11,cx)=>FF n0 f0 n2 f2 n4 f4 n6 f6 x8 cx
 | (_,cx)=>EW n0 f0 n2 f2 n4 f4 n6 f6 x8 cx
def D13 (n0:Nat) (f0:FnV) (n2:Nat) (f2:FnV) (n4:Nat) (f4:FnV) (n6:Nat) (f6:FnV) (x8:Int):LD JJ S13:=⟨QP,P0 n0 f0 n2 f2 n4 f4 n6 f6 x8,vQ n0 f0 n2 f2 n4 f4 n6 f6 x8⟩
def oy (n0:Nat) (f0:FnV) (n2:Nat) (f2:FnV) (n4:Nat) (f4:FnV) (n6:Nat) (f6:FnV) (x8:Int):S13->RT S13
 | .L0 ia0 na1 fa2=>.asm (true=true->dY n0 (elV tyR f0) n2 (elV tyT f2) n4 (elV tyF f4) n6 (elV tyC f6)<=9223372036854775807) (.br (decide (ia0 < (↑(dY n0 (elV tyR f0) n2 (elV tyT f2) n4 (elV tyF f4) n6 (elV tyC f6)):Int))) (.ob (decide (0<=ia0/\ia0 < (↑(dY n0 (elV tyR f0) n2 (elV tyT f2) n4 (elV tyF f4) n6 (elV tyC f6)):Int))) (.ob (decide (0<=ia0/\ia0 < (↑na1:Int)/\na1<=na1)) (.ob (decide (ia0.toNat < na1)) (.obi (.obi (.obj (!jv0 (cX n0 (elV tyR f0) n2 (elV tyT f2) n4 (elV tyF f4) n6 (elV tyC f6) ia0.toNat) != jv0 (fa2 ia0.toNat)) (decide (0<=ia0/\ia0 < (↑(dY n0 (elV tyR f0) n2 (elV tyT f2) n4 (elV tyF f4) n6 (elV tyC f6)):Int))) (.obi (.obi (.obi (.obi (.obj (!jv0 (cX n0 (elV tyR f0) n2 (elV tyT f2) n4 (elV tyF f4) n6 (elV tyC f6) ia0.toNat) != jv0 (fa2 ia0.toNat)) (decide (0<=ia0/\ia0 < (↑na1:Int)/\na1<=na1)) (.obi (.obi (.obj (!jv0 (cX n0 (elV tyR f0) n2 (elV tyT f2) n4 (elV tyF f4) n6 (elV tyC f6) ia0.toNat) != jv0 (fa2 ia0.toNat)) (decide (ia0.toNat < na1)) (.obi (.obi (.obi (.obi (.obi (.obj (!bif jv0 (cX n0 (elV tyR f0) n2 (elV tyT f2) n4 (elV tyF f4) n6 (elV tyC f6) ia0.toNat) != jv0 (fa2 ia0.toNat) then true else jv1 (cX n0 (elV tyR f0) n2 (elV tyT f2) n4 (elV tyF f4) n6 (elV tyC f6) ia0.toNat) != jv1 (fa2 ia0.toNat)) (decide (0<=ia0/\ia0 < (↑(dY n0 (elV tyR f0) n2 (elV tyT f2) n4 (elV tyF f4) n6 (elV tyC f6)):Int))) (.obi (.obi (.obi (.obi (.obj (!bif jv0 (cX n0 (elV tyR f0) n2 (elV tyT f2) n4 (elV tyF f4) n6 (elV tyC f6) ia0.toNat) != jv0 (fa2 ia0.toNat) then true else jv1 (cX n0 (elV tyR f0) n2 (elV tyT f2) n4 (elV tyF f4) n6 (elV tyC f6) ia0.toNat) != jv1 (fa2 ia0.toNat)) (decide (0<=ia0/\ia0 < (↑na1:Int)/\na1<=na1)) (.obi (.obi (.obj (!bif jv0 (cX n0 (elV tyR f0) n2 (elV tyT f2) n4 (elV tyF f4) n6 (elV tyC f6) ia0.toNat) != jv0 (fa2 ia0.toNat) then true else jv1 (cX n0 (elV tyR f0) n2 (elV tyT f2) n4 (elV tyF f4) n6 (elV tyC f6) ia0.toNat) != jv1 (fa2 ia0.toNat)) (decide (ia0.toNat < na1)) (.br (!bif jv0 (cX n0 (elV tyR f0) n2 (elV tyT f2) n4 (elV tyF f4) n6 (elV tyC f6) ia0.toNat) != jv0 (fa2 ia0.toNat) then true else jv1 (cX n0 (elV tyR f0) n2 (elV tyT f2) n4 (elV tyF f4) n6 (elV tyC f6) ia0.toNat) != jv1 (fa2 ia0.toNat)) (.ob (!bif jv0 (cX n0 (elV tyR f0) n2 (elV tyT f2) n4 (elV tyF f4) n6 (elV tyC f6) ia0.toNat) != jv0 (fa2 ia0.toNat) then true else jv1 (cX n0 (elV tyR f0) n2 (elV tyT f2) n4 (elV tyF f4) n6 (elV tyC f6) ia0.toNat) != jv1 (fa2 ia0.toNat)) (.ob (!bif jv0 (cX n0 (elV tyR f0) n2 (elV tyT f2) n4 (elV tyF f4) n6 (elV tyC f6) ia0.toNat) != jv0 (fa2 ia0.toNat) then true else jv1 (cX n0 (elV tyR f0) n2 (elV tyT f2) n4 (elV tyF f4) n6 (elV tyC f6) ia0.toNat) != jv1 (fa2 ia0.toNat)) (.obc (.obt (.br (!F40 (ap (hdV (tlV (tlV (cX n0 (elV tyR f0) n2 (elV tyT f2) n4 (elV tyF f4) n6 (elV tyC f6) ia0.toNat))))) (fun i=>ak tp1 (atV (hdV (tlV (tlV (cX n0 (elV tyR f0) n2 (elV tyT f2) n4 (elV tyF f4) n6 (elV tyC f6) ia0.toNat)))) i)) (ap (hdV (tlV (tlV (fa2 ia0.toNat))))) fun i=>ak tp1 (atV (hdV (tlV (tlV (fa2 ia0.toNat)))) i)) (.ret (V.kb false)) (.next [some (some 0)] (S13.L0 (i64.wrap (ia0+1)) (na1) (elV [Ty.int i64,Ty.int i64,Ty.sl tp1] fa2)) [⟨0,[Ty.int i64,Ty.int i64,Ty.sl tp1],na1,elV [Ty.int i64,Ty.int i64,Ty.sl tp1] fa2,ah rfl _ _⟩])))))) (.ret (V.kb false))))))))))))))))))))))))))))))) (.obc (.obt (.ret (V.bool true)))))
 | .L1 ib0 nb1 fb2=>.asm (true=true->n0<=9223372036854775807) (.br (decide (ib0 < (↑n0:Int))) (.enter (iR 0 7 []) (S13.L2 (0) (ib0) (nb1) (elV [Ty.int i64,Ty.int i64,Ty.sl tp1] fb2)) [⟨1,tp1,cY n0 (elV tyR f0) n2 (elV tyT f2) n4 (elV tyF f4) n6 (elV tyC f6),elV tp1 (dB n0 (elV tyR f0) n2 (elV tyT f2) n4 (elV tyF f4) n6 (elV tyC f6)),ah rfl _ _⟩,⟨2,tp1,de n0 (elV tyR f0) n2 (elV tyT f2) n4 (elV tyF f4) n6 (elV tyC f6),elV tp1 (dA n0 (elV tyR f0) n2 (elV tyT f2) n4 (elV tyF f4) n6 (elV tyC f6)),ah rfl _ _⟩,⟨3,tp1,dk n0 (elV tyR f0) n2 (elV tyT f2) n4 (elV tyF f4) n6 (elV tyC f6) x8,elV tp1 (dQ n0 (elV tyR f0) n2 (elV tyT f2) n4 (elV tyF f4) n6 (elV tyC f6) x8),ah rfl _ _⟩,⟨4,tp1,dw n0 (elV tyR f0) n2 (elV tyT f2) n4 (elV tyF f4) n6 (elV tyC f6) x8,elV tp1 (dS n0 (elV tyR f0) n2 (elV tyT f2) n4 (elV tyF f4) n6 (elV tyC f6) x8),ah rfl _ _⟩,⟨5,[Ty.int i64,Ty.int i64,Ty.sl tp1],nb1,elV [Ty.int i64,Ty.int i64,Ty.sl tp1] fb2,ah rfl _ _⟩]) (.obi (.asm ((!ei n0 (elV tyR f0) n2 (elV tyT f2) n4 (elV tyF f4) n6 (elV tyC f6) != 0)=true->dY n0 (elV tyR f0) n2 (elV tyT f2) n4 (elV tyF f4) n6 (elV tyC f6)<=9223372036854775807) (.obi (.obi (.obi (.obi (.br (bif ei n0 (elV tyR f0) n2 (elV tyT f2) n4 (elV tyF f4) n6 (elV tyC f6) != 0 then true else (↑(dY n0 (elV tyR f0) n2 (elV tyT f2) n4 (elV tyF f4) n6 (elV tyC f6)):Int) != (↑nb1:Int)) (.ret (V.kb false)) (.enter [some (some 5)] (S13.L0 (0) (nb1) (elV [Ty.int i64,Ty.int i64,Ty.sl tp1] fb2)) [⟨0,[Ty.int i64,Ty.int i64,Ty.sl tp1],nb1,elV [Ty.int i64,Ty.int i64,Ty.sl tp1] fb2,ah rfl _ _⟩])))))))))
 | .L2 ic0 ic1 nc2 fc3=>.ob (decide (0<=ic1/\ic1 < (↑n0:Int))) (.asm (true=true->ap (hdV (tlV (tlV (f0 ic1.toNat))))<=9223372036854775807) (.br (decide (ic0 < (↑(ap (hdV (tlV (tlV (f0 ic1.toNat))))):Int))) (.ob (decide (0<=ic1/\ic1 < (↑n0:Int))) (.ob (decide (0<=ic0/\ic0 < (↑(ap (hdV (tlV (tlV (f0 ic1.toNat))))):Int))) (.enter (iR 0 8 [some none,some (some 9),some (some 8)]) (S13.L10 (0) (0) (nc2) (elV [Ty.int i64,Ty.int i64,Ty.sl tp1] fc3) (jv0 (atV (hdV (tlV (tlV (f0 ic1.toNat)))) ic0.toNat)) (jv1 (atV (hdV (tlV (tlV (f0 ic1.toNat)))) ic0.toNat)) (fun i=>[]) (fc3) (ic1) (ic0)) [⟨1,tp1,cY n0 (elV tyR f0) n2 (elV tyT f2) n4 (elV tyF f4) n6 (elV tyC f6),elV tp1 (dB n0 (elV tyR f0) n2 (elV tyT f2) n4 (elV tyF f4) n6 (elV tyC f6)),ah rfl _ _⟩,⟨2,tp1,de n0 (elV tyR f0) n2 (elV tyT f2) n4 (elV tyF f4) n6 (elV tyC f6),elV tp1 (dA n0 (elV tyR f0) n2 (elV tyT f2) n4 (elV tyF f4) n6 (elV tyC f6)),ah rfl _ _⟩,⟨3,tp1,dk n0 (elV tyR f0) n2 (elV tyT f2) n4 (elV tyF f4) n6 (elV tyC f6) x8,elV tp1 (dQ n0 (elV tyR f0) n2 (elV tyT f2) n4 (elV tyF f4) n6 (elV tyC f6) x8),ah rfl _ _⟩,⟨4,tp1,dw n0 (elV tyR f0) n2 (elV tyT f2) n4 (elV tyF f4) n6 (elV tyC f6) x8,elV tp1 (dS n0 (elV tyR f0) n2 (elV tyT f2) n4 (elV tyF f4) n6 (elV tyC f6) x8),ah rfl _ _⟩,⟨5,[Ty.int i64,Ty.int i64,Ty.sl tp1],nc2,elV [Ty.int i64,Ty.int i64,Ty.sl tp1] fc3,ah rfl _ _⟩]))) (.next (iR 0 7 []) (S13.L1 (i64.wrap (ic1+1)) (nc2) (elV [Ty.int i64,Ty.int i64,Ty.sl tp1] fc3)) [⟨1,tp1,cY n0 (elV tyR f0) n2 (elV tyT f2) n4 (elV tyF f4) n6 (elV tyC f6),elV tp1 (dB n0 (elV tyR f0) n2 (elV tyT f2) n4 (elV tyF f4) n6 (elV tyC f6)),ah rfl _ _⟩,⟨2,tp1,de n0 (elV tyR f0) n2 (elV tyT f2) n4 (elV tyF f4) n6 (elV tyC f6),elV tp1 (dA n0 (elV tyR f0) n2 (elV tyT f2) n4 (elV tyF f4) n6 (elV tyC f6)),ah rfl _ _⟩,⟨3,tp1,dk n0 (elV tyR f0) n2 (elV tyT f2) n4 (elV tyF f4) n6 (elV tyC f6) x8,elV tp1 (dQ n0 (elV tyR f0) n2 (elV tyT f2) n4 (elV tyF f4) n6 (elV tyC f6) x8),ah rfl _ _⟩,⟨4,tp1,dw n0 (elV tyR f0) n2 (elV tyT f2) n4 (elV tyF f4) n6 (elV tyC f6) x8,elV tp1 (dS n0 (elV tyR f0) n2 (elV tyT f2) n4 (elV tyF f4) n6 (elV tyC f6) x8),ah rfl _ _⟩,⟨5,[Ty.int i64,Ty.int i64,Ty.sl tp1],nc2,elV [Ty.int i64,Ty.int i64,Ty.sl tp1] fc3,ah rfl _ _⟩])))
 | .L9 ij0 nj1 ij2 ij3 nj4 fj5 ij6 ij7 fj8=>.obi (.obi (.obj (decide (ij0 < (↑nj4:Int))) (decide (0<=ij0/\ij0 < (↑nj4:Int)/\nj4<=nj4)) (.obi (.obi (.obj (decide (ij0 < (↑nj4:Int))) (decide (ij0.toNat < nj4)) (.obt (.obi (.obi (.obi (.obi (.obi (.obi (.obj (decide (ij0 < (↑nj4:Int)) && !decide (jv0 (fj8 ij0.toNat) < ij6)) (decide (0<=ij0/\ij0 < (↑nj4:Int)/\nj4<=nj4)) (.obi (.obi (.obj (decide (ij0 < (↑nj4:Int)) && !decide (jv0 (fj8 ij0.toNat) < ij6)) (decide (ij0.toNat < nj4)) (.obt (.obi (.obi (.obi (.obi (.obi (.obi (.obj (decide (ij0 < (↑nj4:Int)) && !decide (jv0 (fj8 ij0.toNat) < ij6) && jv0 (fj8 ij0.toNat) == ij6) (decide (0<=ij0/\ij0 < (↑nj4:Int)/\nj4<=nj4)) (.obi (.obi (.obj (decide (ij0 < (↑nj4:Int)) && !decide (jv0 (fj8 ij0.toNat) < ij6) && jv0 (fj8 ij0.toNat) == ij6) (decide (ij0.toNat < nj4)) (.obt (.obi (.obi (.obi (.obi (.obi (.obi (.obi (.obi (.br (bif decide (ij0 < (↑nj4:Int)) then bif decide (jv0 (fj8 ij0.toNat) < ij6) then true else bif jv0 (fj8 ij0.toNat) == ij6 then decide (jv1 (fj8 ij0.toNat) < ij7) else false else false) (.next (iR 0 9 []) (S13.L9 (i64.wrap (ij0+1)) (nj1) (ij2) (ij3) (nj4) (elV tp1 fj5) (ij6) (ij7) (elV [Ty.int i64,Ty.int i64,Ty.sl tp1] fj8)) [⟨1,tp1,cY n0 (elV tyR f0) n2 (elV tyT f2) n4 (elV tyF f4) n6 (elV tyC f6),elV tp1 (dB n0 (elV tyR f0) n2 (elV tyT f2) n4 (elV tyF f4) n6 (elV tyC f6)),ah rfl _ _⟩,⟨2,tp1,de n0 (elV tyR f0) n2 (elV tyT f2) n4 (elV tyF f4) n6 (elV tyC f6),elV tp1 (dA n0 (elV tyR f0) n2 (elV tyT f2) n4 (elV tyF f4) n6 (elV tyC f6)),ah rfl _ _⟩,⟨3,tp1,dk n0 (elV tyR f0) n2 (elV tyT f2) n4 (elV tyF f4) n6 (elV tyC f6) x8,elV tp1 (dQ n0 (elV tyR f0) n2 (elV tyT f2) n4 (elV tyF f4) n6 (elV tyC f6) x8),ah rfl _ _⟩,⟨4,tp1,dw n0 (elV tyR f0) n2 (elV tyT f2) n4 (elV tyF f4) n6 (elV tyC f6) x8,elV tp1 (dS n0 (elV tyR f0) n2 (elV tyT f2) n4 (elV tyF f4) n6 (elV tyC f6) x8),ah rfl _ _⟩,⟨5,tp1,nj1,elV tp1 fj5,ah rfl _ _⟩,⟨7,[Ty.int i64,Ty.int i64,Ty.sl tp1],nj4,elV [Ty.int i64,Ty.int i64,Ty.sl tp1] fj8,ah rfl _ _⟩]) (.obi (.obi (.obj (decide (ij0 < (↑nj4:Int))) (decide (0<=ij0/\ij0 < (↑nj4:Int)/\nj4<=nj4)) (.obi (.obi (.obj (decide (ij0 < (↑nj4:Int))) (decide (ij0.toNat < nj4)) (.obt (.obi (.obi (.obi (.obi (.obi (.obi (.obj (bif decide (ij0 < (↑nj4:Int)) then jv0 (fj8 ij0.toNat) == ij6 else false) (decide (0<=ij0/\ij0 < (↑nj4:Int)/\nj4<=nj4)) (.obi (.obi (.obj (bif decide (ij0 < (↑nj4:Int)) then jv0 (fj8 ij0.toNat) == ij6 else false) (decide (ij0.toNat < nj4)) (.obt (.obi (.obi (.obi (.obi (.br (bif bif decide (ij0 < (↑nj4:Int)) then jv0 (fj8 ij0.toNat) == ij6 else false then jv1 (fj8 ij0.toNat) == ij7 else false) (.next (iR 0 5 [some (some 7),some (some 8)]) (S13.L2 (i64.wrap (ij2+1)) (ij3) (nj4) (elV [Ty.int i64,Ty.int i64,Ty.sl tp1] fj8)) [⟨1,tp1,cY n0 (elV tyR f0) n2 (elV tyT f2) n4 (elV tyF f4) n6 (elV tyC f6),elV tp1 (dB n0 (elV tyR f0) n2 (elV tyT f2) n4 (elV tyF f4) n6 (elV tyC f6)),ah rfl _ _⟩,⟨2,tp1,de n0 (elV tyR f0) n2 (elV tyT f2) n4 (elV tyF f4) n6 (elV tyC f6),elV tp1 (dA n0 (elV tyR f0) n2 (elV tyT f2) n4 (elV tyF f4) n6 (elV tyC f6)),ah rfl _ _⟩,⟨3,tp1,dk n0 (elV tyR f0) n2 (elV tyT f2) n4 (elV tyF f4) n6 (elV tyC f6) x8,elV tp1 (dQ n0 (elV tyR f0) n2 (elV tyT f2) n4 (elV tyF f4) n6 (elV tyC f6) x8),ah rfl _ _⟩,⟨4,tp1,dw n0 (elV tyR f0) n2 (elV tyT f2) n4 (elV tyF f4) n6 (elV tyC f6) x8,elV tp1 (dS n0 (elV tyR f0) n2 (elV tyT f2) n4 (elV tyF f4) n6 (elV tyC f6) x8),ah rfl _ _⟩,⟨5,[Ty.int i64,Ty.int i64,Ty.sl tp1],nj4,elV [Ty.int i64,Ty.int i64,Ty.sl tp1] fj8,ah rfl _ _⟩]) (.obt (.obt (.ob (decide (0<=ij0/\ij0<=(↑nj4:Int))) (.ob ((ij0.toNat+(nj4 - ij0.toNat)).ble nj4) (.br ((nj4 - ij0.toNat).beq 0) (.obt (.ob (decide (0<=ij0/\ij0<=(↑nj4:Int))) (.ob (ij0.toNat.ble nj4) (.ob (decide (ij0.toNat * 40<=140737488355328) && !Nat.beq 40 0) (.obt (.ob (decide (ij0.toNat<=ij0.toNat/\(ij0.toNat+1) * 40<=140737488355328) && !Nat.beq 40 0) (.nextz [⟨5,tp1,nj1,elV tp1 fj5,ah rfl _ _⟩] [⟨13,ij0.toNat+1,bb ij0.toNat (elV [Ty.int i64,Ty.int i64,Ty.sl tp1] fj8) fun x=>[vi ij6,vi ij7,V.gs 5 nj1],bb ij0.toNat (elV [Ty.int i64,Ty.int i64,Ty.sl tp1] fj8) fun x=>[vi ij6,vi ij7,V.sl nj1 (elV tp1 fj5)],pP (zJ _ _) (qk _ (⟨frE _,⟨frE _,⟨frG (ts:=tp1) (f:=elV tp1 fj5) (List.Mem.head _) rfl rfl rfl (Nat.le_refl _),trivial⟩⟩⟩))⟩] (iR 0 5 [some (some 13),some (some 8)]) (S13.L2 (i64.wrap (ij2+1)) (ij3) (ij0.toNat+1) (bb ij0.toNat (elV [Ty.int i64,Ty.int i64,Ty.sl tp1] fj8) fun x=>[vi ij6,vi ij7,V.sl nj1 (elV tp1 fj5)])) [⟨1,tp1,cY n0 (elV tyR f0) n2 (elV tyT f2) n4 (elV tyF f4) n6 (elV tyC f6),elV tp1 (dB n0 (elV tyR f0) n2 (elV tyT f2) n4 (elV tyF f4) n6 (elV tyC f6)),ah rfl _ _⟩,⟨2,tp1,de n0 (elV tyR f0) n2 (elV tyT f2) n4 (elV tyF f4) n6 (elV tyC f6),elV tp1 (dA n0 (elV tyR f0) n2 (elV tyT f2) n4 (elV tyF f4) n6 (elV tyC f6)),ah rfl _ _⟩,⟨3,tp1,dk n0 (elV tyR f0) n2 (elV tyT f2) n4 (elV tyF f4) n6 (elV tyC f6) x8,elV tp1 (dQ n0 (elV tyR f0) n2 (elV tyT f2) n4 (elV tyF f4) n6 (elV tyC f6) x8),ah rfl _ _⟩,⟨4,tp1,dw n0 (elV tyR f0) n2 (elV tyT f2) n4 (elV tyF f4) n6 (elV tyC f6) x8,elV tp1 (dS n0 (elV tyR f0) n2 (elV tyT f2) n4 (elV tyF f4) n6 (elV tyC f6) x8),ah rfl _ _⟩,⟨5,[Ty.int i64,Ty.int i64,Ty.sl tp1],ij0.toNat+1,bb ij0.toNat (elV [Ty.int i64,Ty.int i64,Ty.sl tp1] fj8) fun x=>[vi ij6,vi ij7,V.sl nj1 (elV tp1 fj5)],gW (ah rfl _ _) (gk rfl _ rfl)⟩]))))))) (.ob (decide (1 < 1+(nj4 - ij0.toNat)/\(1+(nj4 - ij0.toNat)) * 40<=140737488355328) && !Nat.beq 40 0) (.ob (decide (0<=ij0/\ij0<=(↑nj4:Int))) (.ob (ij0.toNat.ble nj4) (.ob (decide (ij0.toNat * 40<=140737488355328) && !Nat.beq 40 0) (.ob ((1+(nj4 - ij0.toNat)).ble (1+(nj4 - ij0.toNat))) (.ob (decide (ij0.toNat<=ij0.toNat/\(ij0.toNat+(1+(nj4 - ij0.toNat))) * 40<=140737488355328) && !Nat.beq 40 0) (.nextz [⟨5,tp1,nj1,elV tp1 fj5,ah rfl _ _⟩] [⟨10,1+(nj4 - ij0.toNat),bb 1 (fun x=>[vi ij6,vi ij7,V.gs 5 nj1]) fun i=>[vi (jv0 (fj8 (ij0.toNat+i))),vi (jv1 (fj8 (ij0.toNat+i))),V.sl (ap (hdV (tlV (tlV (fj8 (ij0.toNat+i)))))) fun i_1=>ak tp1 (atV (hdV (tlV (tlV (fj8 (ij0.toNat+i))))) i_1)],bb 1 (fun x=>[vi ij6,vi ij7,V.sl nj1 (elV tp1 fj5)]) fun i=>[vi (jv0 (fj8 (ij0.toNat+i))),vi (jv1 (fj8 (ij0.toNat+i))),V.sl (ap (hdV (tlV (tlV (fj8 (ij0.toNat+i)))))) fun i_1=>ak tp1 (atV (hdV (tlV (tlV (fj8 (ij0.toNat+i))))) i_1)],pP (qk _ (⟨frE _,⟨frE _,⟨frG (ts:=tp1) (f:=elV tp1 fj5) (List.Mem.head _) rfl rfl rfl (Nat.le_refl _),trivial⟩⟩⟩)) (zJ _ _)⟩,⟨13,ij0.toNat+(1+(nj4 - ij0.toNat)),bb ij0.toNat (elV [Ty.int i64,Ty.int i64,Ty.sl tp1] fj8) (bb 1 (fun x=>[vi ij6,vi ij7,V.gs 5 nj1]) fun i=>[vi (jv0 (fj8 (ij0.toNat+i))),vi (jv1 (fj8 (ij0.toNat+i))),V.sl (ap (hdV (tlV (tlV (fj8 (ij0.toNat+i)))))) fun i_1=>ak tp1 (atV (hdV (tlV (tlV (fj8 (ij0.toNat+i))))) i_1)]),bb ij0.toNat (elV [Ty.int i64,Ty.int i64,Ty.sl tp1] fj8) (bb 1 (fun x=>[vi ij6,vi ij7,V.sl nj1 (elV tp1 fj5)]) fun i=>[vi (jv0 (fj8 (ij0.toNat+i))),vi (jv1 (fj8 (ij0.toNat+i))),V.sl (ap (hdV (tlV (tlV (fj8 (ij0.toNat+i)))))) fun i_1=>ak tp1 (atV (hdV (tlV (tlV (fj8 (ij0.toNat+i))))) i_1)]),pP (zJ _ _) (pP (qk _ (⟨frE _,⟨frE _,⟨frG (ts:=tp1) (f:=elV tp1 fj5) (List.Mem.head _) rfl rfl rfl (Nat.le_refl _),trivial⟩⟩⟩)) (zJ _ _))⟩] (iR 0 5 [some (some 13),some (some 8)]) (S13.L2 (i64.wrap (ij2+1)) (ij3) (ij0.toNat+(1+(nj4 - ij0.toNat))) (bb ij0.toNat (elV [Ty.int i64,Ty.int i64,Ty.sl tp1] fj8) (bb 1 (fun x=>[vi ij6,vi ij7,V.sl nj1 (elV tp1 fj5)]) fun i=>[vi (jv0 (fj8 (ij0.toNat+i))),vi (jv1 (fj8 (ij0.toNat+i))),V.sl (ap (hdV (tlV (tlV (fj8 (ij0.toNat+i)))))) fun i_1=>ak tp1 (atV (hdV (tlV (tlV (fj8 (ij0.toNat+i))))) i_1)]))) [⟨1,tp1,cY n0 (elV tyR f0) n2 (elV tyT f2) n4 (elV tyF f4) n6 (elV tyC f6),elV tp1 (dB n0 (elV tyR f0) n2 (elV tyT f2) n4 (elV tyF f4) n6 (elV tyC f6)),ah rfl _ _⟩,⟨2,tp1,de n0 (elV tyR f0) n2 (elV tyT f2) n4 (elV tyF f4) n6 (elV tyC f6),elV tp1 (dA n0 (elV tyR f0) n2 (elV tyT f2) n4 (elV tyF f4) n6 (elV tyC f6)),ah rfl _ _⟩,⟨3,tp1,dk n0 (elV tyR f0) n2 (elV tyT f2) n4 (elV tyF f4) n6 (elV tyC f6) x8,elV tp1 (dQ n0 (elV tyR f0) n2 (elV tyT f2) n4 (elV tyF f4) n6 (elV tyC f6) x8),ah rfl _ _⟩,⟨4,tp1,dw n0 (elV tyR f0) n2 (elV tyT f2) n4 (elV tyF f4) n6 (elV tyC f6) x8,elV tp1 (dS n0 (elV tyR f0) n2 (elV tyT f2) n4 (elV tyF f4) n6 (elV tyC f6) x8),ah rfl _ _⟩,⟨5,[Ty.int i64,Ty.int i64,Ty.sl tp1],ij0.toNat+(1+(nj4 - ij0.toNat)),bb ij0.toNat (elV [Ty.int i64,Ty.int i64,Ty.sl tp1] fj8) (bb 1 (fun x=>[vi ij6,vi ij7,V.sl nj1 (elV tp1 fj5)]) fun i=>[vi (jv0 (fj8 (ij0.toNat+i))),vi (jv1 (fj8 (ij0.toNat+i))),V.sl (ap (hdV (tlV (tlV (fj8 (ij0.toNat+i)))))) fun i_1=>ak tp1 (atV (hdV (tlV (tlV (fj8 (ij0.toNat+i))))) i_1)]),gW (ah rfl _ _) (gW (gk rfl _ rfl) (Kl rfl _ fun _=>rfl))⟩]))))))))))))))))))))))))))))))))))))))))))))))))))))))))))))))))))))))))
 | .L10 ik0 nk1 nk2 fk3 ik4 ik5 fk6 fk7 ik8 ik9=>.asm (true=true->n0<=9223372036854775807) (.br (decide (ik0 < (↑n0:Int))) (.enter (iR 0 11 []) (S13.L11 (0) (false) (ik0) (nk1) (nk2) (elV [Ty.int i64,Ty.int i64,Ty.sl tp1] fk3) (ik4) (ik5) (elV tp1 fk6) (fk7) (ik8) (ik9)) [⟨1,tp1,cY n0 (elV tyR f0) n2 (elV tyT f2) n4 (elV tyF f4) n6 (elV tyC f6),elV tp1 (dB n0 (elV tyR f0) n2 (elV tyT f2) n4 (elV tyF f4) n6 (elV tyC f6)),ah rfl _ _⟩,⟨2,tp1,de n0 (elV tyR f0) n2 (elV tyT f2) n4 (elV tyF f4) n6 (elV tyC f6),elV tp1 (dA n0 (elV tyR f0) n2 (elV tyT f2) n4 (elV tyF f4) n6 (elV tyC f6)),ah rfl _ _⟩,⟨3,tp1,dk n0 (elV tyR f0) n2 (elV tyT f2) n4 (elV tyF f4) n6 (elV tyC f6) x8,elV tp1 (dQ n0 (elV tyR f0) n2 (elV tyT f2) n4 (elV tyF f4) n6 (elV tyC f6) x8),ah rfl _ _⟩,⟨4,tp1,dw n0 (elV tyR f0) n2 (elV tyT f2) n4 (elV tyF f4) n6 (elV tyC f6) x8,elV tp1 (dS n0 (elV tyR f0) n2 (elV tyT f2) n4 (elV tyF f4) n6 (elV tyC f6) x8),ah rfl _ _⟩,⟨5,[Ty.int i64,Ty.int i64,Ty.sl tp1],nk2,elV [Ty.int i64,Ty.int i64,Ty.sl tp1] fk3,ah rfl _ _⟩,⟨8,tp1,nk1,elV tp1 fk6,ah rfl _ _⟩]) (.br (decide ((↑nk1:Int) < 2)) (.next (iR 0 7 []) (S13.L2 (i64.wrap (ik9+1)) (ik8) (nk2) (elV [Ty.int i64,Ty.int i64,Ty.sl tp1] fk3)) [⟨1,tp1,cY n0 (elV tyR f0) n2 (elV tyT f2) n4 (elV tyF f4) n6 (elV tyC f6),elV tp1 (dB n0 (elV tyR f0) n2 (elV tyT f2) n4 (elV tyF f4) n6 (elV tyC f6)),ah rfl _ _⟩,⟨2,tp1,de n0 (elV tyR f0) n2 (elV tyT f2) n4 (elV tyF f4) n6 (elV tyC f6),elV tp1 (dA n0 (elV tyR f0) n2 (elV tyT f2) n4 (elV tyF f4) n6 (elV tyC f6)),ah rfl _ _⟩,⟨3,tp1,dk n0 (elV tyR f0) n2 (elV tyT f2) n4 (elV tyF f4) n6 (elV tyC f6) x8,elV tp1 (dQ n0 (elV tyR f0) n2 (elV tyT f2) n4 (elV tyF f4) n6 (elV tyC f6) x8),ah rfl _ _⟩,⟨4,tp1,dw n0 (elV tyR f0) n2 (elV tyT f2) n4 (elV tyF f4) n6 (elV tyC f6) x8,elV tp1 (dS n0 (elV tyR f0) n2 (elV tyT f2) n4 (elV tyF f4) n6 (elV tyC f6) x8),ah rfl _ _⟩,⟨5,[Ty.int i64,Ty.int i64,Ty.sl tp1],nk2,elV [Ty.int i64,Ty.int i64,Ty.sl tp1] fk3,ah rfl _ _⟩]) (.enter (iR 0 5 [some (some 8),some (some 7),some (some 5),some (some 6)]) (S13.L9 (0) (nk1) (ik9) (ik8) (nk2) (elV tp1 fk6) (ik4) (ik5) (elV [Ty.int i64,Ty.int i64,Ty.sl tp1] fk3)) [⟨1,tp1,cY n0 (elV tyR f0) n2 (elV tyT f2) n4 (elV tyF f4) n6 (elV tyC f6),elV tp1 (dB n0 (elV tyR f0) n2 (elV tyT f2) n4 (elV tyF f4) n6 (elV tyC f6)),ah rfl _ _⟩,⟨2,tp1,de n0 (elV tyR f0) n2 (elV tyT f2) n4 (elV tyF f4) n6 (elV tyC f6),elV tp1 (dA n0 (elV tyR f0) n2 (elV tyT f2) n4 (elV tyF f4) n6 (elV tyC f6)),ah rfl _ _⟩,⟨3,tp1,dk n0 (elV tyR f0) n2 (elV tyT f2) n4 (elV tyF f4) n6 (elV tyC f6) x8,elV tp1 (dQ n0 (elV tyR f0) n2 (elV tyT f2) n4 (elV tyF f4) n6 (elV tyC f6) x8),ah rfl _ _⟩,⟨4,tp1,dw n0 (elV tyR f0) n2 (elV tyT f2) n4 (elV tyF f4) n6 (elV tyC f6) x8,elV tp1 (dS n0 (elV tyR f0) n2 (elV tyT f2) n4 (elV tyF f4) n6 (elV tyC f6) x8),ah rfl _ _⟩,⟨5,tp1,nk1,elV tp1 fk6,ah rfl _ _⟩,⟨7,[Ty.int i64,Ty.int i64,Ty.sl tp1],nk2,elV [Ty.int i64,Ty.int i64,Ty.sl tp1] fk3,ah rfl _ _⟩])))
 | .L11 il0 bl1 il2 nl3 nl4 fl5 il6 il7 fl8 fl9 il10 il11=>.ob (decide (0<=il2/\il2 < (↑n0:Int))) (.asm (true=true->ap (hdV (tlV (tlV (f0 il2.toNat))))<=9223372036854775807) (.br (decide (il0 < (↑(ap (hdV (tlV (tlV (f0 il2.toNat))))):Int))) (.obi (.obi (.obi (.obj (!bl1) (decide (0<=il2/\il2 < (↑n0:Int))) (.obi (.obi (.obi (.obi (.obj (!bl1) (decide (0<=il0/\il0 < (↑(ap (hdV (tlV (tlV (f0 il2.toNat))))):Int))) (.obi (.obi (.obi (.obi (.next (iR 0 11 []) (S13.L11 (i64.wrap (il0+1)) (bif bl1 then true else jv0 (atV (hdV (tlV (tlV (f0 il2.toNat)))) il0.toNat) == il6 && (jv1 (atV (hdV (tlV (tlV (f0 il2.toNat)))) il0.toNat) == il7 && true)) (il2) (nl3) (nl4) (elV [Ty.int i64,Ty.int i64,Ty.sl tp1] fl5) (il6) (il7) (elV tp1 fl8) (fl9) (il10) (il11)) [⟨1,tp1,cY n0 (elV tyR f0) n2 (elV tyT f2) n4 (elV tyF f4) n6 (elV tyC f6),elV tp1 (dB n0 (elV tyR f0) n2 (elV tyT f2) n4 (elV tyF f4) n6 (elV tyC f6)),ah rfl _ _⟩,⟨2,tp1,de n0 (elV tyR f0) n2 (elV tyT f2) n4 (elV tyF f4) n6 (elV tyC f6),elV tp1 (dA n0 (elV tyR f0) n2 (elV tyT f2) n4 (elV tyF f4) n6 (elV tyC f6)),ah rfl _ _⟩,⟨3,tp1,dk n0 (elV tyR f0) n2 (elV tyT f2) n4 (elV tyF f4) n6 (elV tyC f6) x8,elV tp1 (dQ n0 (elV tyR f0) n2 (elV tyT f2) n4 (elV tyF f4) n6 (elV tyC f6) x8),ah rfl _ _⟩,⟨4,tp1,dw n0 (elV tyR f0) n2 (elV tyT f2) n4 (elV tyF f4) n6 (elV tyC f6) x8,elV tp1 (dS n0 (elV tyR f0) n2 (elV tyT f2) n4 (elV tyF f4) n6 (elV tyC f6) x8),ah rfl _ _⟩,⟨5,[Ty.int i64,Ty.int i64,Ty.sl tp1],nl4,elV [Ty.int i64,Ty.int i64,Ty.sl tp1] fl5,ah rfl _ _⟩,⟨8,tp1,nl3,elV tp1 fl8,ah rfl _ _⟩])))))))))))))) (.br (bl1) (.obt (.ob (decide (nl3<=nl3/\(nl3+1) * 8<=140737488355328) && !Nat.beq 8 0) (.next (iR 0 8 [some (some 12),some (some 9),some (some 10)]) (S13.L10 (i64.wrap (il2+1)) (nl3+1) (nl4) (elV [Ty.int i64,Ty.int i64,Ty.sl tp1] fl5) (il6) (il7) (bb nl3 (elV tp1 fl8) fun x=>[vi il2]) (fl9) (il10) (il11)) [⟨1,tp1,cY n0 (elV tyR f0) n2 (elV tyT f2) n4 (elV tyF f4) n6 (elV tyC f6),elV tp1 (dB n0 (elV tyR f0) n2 (elV tyT f2) n4 (elV tyF f4) n6 (elV tyC f6)),ah rfl _ _⟩,⟨2,tp1,de n0 (elV tyR f0) n2 (elV tyT f2) n4 (elV tyF f4) n6 (elV tyC f6),elV tp1 (dA n0 (elV tyR f0) n2 (elV tyT f2) n4 (elV tyF f4) n6 (elV tyC f6)),ah rfl _ _⟩,⟨3,tp1,dk n0 (elV tyR f0) n2 (elV tyT f2) n4 (elV tyF f4) n6 (elV tyC f6) x8,elV tp1 (dQ n0 (elV tyR f0) n2 (elV tyT f2) n4 (elV tyF f4) n6 (elV tyC f6) x8),ah rfl _ _⟩,⟨4,tp1,dw n0 (elV tyR f0) n2 (elV tyT f2) n4 (elV tyF f4) n6 (elV tyC f6) x8,elV tp1 (dS n0 (elV tyR f0) n2 (elV tyT f2) n4 (elV tyF f4) n6 (elV tyC f6) x8),ah rfl _ _⟩,⟨5,[Ty.int i64,Ty.int i64,Ty.sl tp1],nl4,elV [Ty.int i64,Ty.int i64,Ty.sl tp1] fl5,ah rfl _ _⟩,⟨8,tp1,nl3+1,bb nl3 (elV tp1 fl8) fun x=>[vi il2],gW (ah rfl _ _) (gk rfl _ rfl)⟩]))) (.next (iR 0 11 []) (S13.L10 (i64.wrap (il2+1)) (nl3) (nl4) (elV [Ty.int i64,Ty.int i64,Ty.sl tp1] fl5) (il6) (il7) (elV tp1 fl8) (fl9) (il10) (il11)) [⟨1,tp1,cY n0 (elV tyR f0) n2 (elV tyT f2) n4 (elV tyF f4) n6 (elV tyC f6),elV tp1 (dB n0 (elV tyR f0) n2 (elV tyT f2) n4 (elV tyF f4) n6 (elV tyC f6)),ah rfl _ _⟩,⟨2,tp1,de n0 (elV tyR f0) n2 (elV tyT f2) n4 (elV tyF f4) n6 (elV tyC f6),elV tp1 (dA n0 (elV tyR f0) n2 (elV tyT f2) n4 (elV tyF f4) n6 (elV tyC f6)),ah rfl _ _⟩,⟨3,tp1,dk n0 (elV tyR f0) n2 (elV tyT f2) n4 (elV tyF f4) n6 (elV tyC f6) x8,elV tp1 (dQ n0 (elV tyR f0) n2 (elV tyT f2) n4 (elV tyF f4) n6 (elV tyC f6) x8),ah rfl _ _⟩,⟨4,tp1,dw n0 (elV tyR f0) n2 (elV tyT f2) n4 (elV tyF f4) n6 (elV tyC f6) x8,elV tp1 (dS n0 (elV tyR f0) n2 (elV tyT f2) n4 (elV tyF f4) n6 (elV tyC f6) x8),ah rfl _ _⟩,⟨5,[Ty.int i64,Ty.int i64,Ty.sl tp1],nl4,elV [Ty.int i64,Ty.int i64,Ty.sl tp1] fl5,ah rfl _ _⟩,⟨8,tp1,nl3,elV tp1 fl8,ah rfl _ _⟩]))))
def m13 (n0:Nat) (f0:FnV) (n2:Nat) (f2:FnV) (n4:Nat) (f4:FnV) (n6:Nat) (f6:FnV) (x8:Int):RT S13:=.obp ((∀ (i:Nat),i < n0->(sv (hdV (f0 i))).size<=(9223372036854775807:Nat))/\∀ (i:Nat),i < n6->(sv (hdV (f6 i))).size<=(9223372036854775807:Nat)) (.obp ((∀ (i:Nat),i < n0->(sv (hdV (f0 i))).size<=(9223372036854775807:Nat))/\∀ (i:Nat),i < n6->(sv (hdV (f6 i))).size<=(9223372036854775807:Nat)) (.obp ((∀ (i:Nat),i < n0->(sv (hdV (f0 i))).size<=(9223372036854775807:Nat))/\∀ (i:Nat),i < n6->(sv (hdV (f6 i))).size<=(9223372036854775807:Nat)) (.obp ((∀ (i:Nat),i < n0->(sv (hdV (f0 i))).size<=(9223372036854775807:Nat))/\∀ (i:Nat),i < n6->(sv (hdV (f6 i))).size<=(9223372036854775807:Nat)) (.obi (.obi (.obi (.br (!bif lS n0 (elV tyR f0) n2 (elV tyT f2) n4 (elV tyF f4) n6 (elV tyC f6) != mY n0 (elV tyR f0) n2 (elV tyT f2) n4 (elV tyF f4) n6 (elV tyC f6) then true else l5 n0 (elV tyR f0) n2 (elV tyT f2) n4 (elV tyF f4) n6 (elV tyC f6) x8 != ml n0 (elV tyR f0) n2 (elV tyT f2) n4 (elV tyF f4) n6 (elV tyC f6) x8) (.ob (!bif lS n0 (elV tyR f0) n2 (elV tyT f2) n4 (elV tyF f4) n6 (elV tyC f6) != mY n0 (elV tyR f0) n2 (elV tyT f2) n4 (elV tyF f4) n6 (elV tyC f6) then true else l5 n0 (elV tyR f0) n2 (elV tyT f2) n4 (elV tyF f4) n6 (elV tyC f6) x8 != ml n0 (elV tyR f0) n2 (elV tyT f2) n4 (elV tyF f4) n6 (elV tyC f6) x8) (.ob (!bif lS n0 (elV tyR f0) n2 (elV tyT f2) n4 (elV tyF f4) n6 (elV tyC f6) != mY n0 (elV tyR f0) n2 (elV tyT f2) n4 (elV tyF f4) n6 (elV tyC f6) then true else l5 n0 (elV tyR f0) n2 (elV tyT f2) n4 (elV tyF f4) n6 (elV tyC f6) x8 != ml n0 (elV tyR f0) n2 (elV tyT f2) n4 (elV tyF f4) n6 (elV tyC f6) x8) (.obc (.obt (.ob ((cY n0 (elV tyR f0) n2 (elV tyT f2) n4 (elV tyF f4) n6 (elV tyC f6)).ble (cY n0 (elV tyR f0) n2 (elV tyT f2) n4 (elV tyF f4) n6 (elV tyC f6))) (.ob ((de n0 (elV tyR f0) n2 (elV tyT f2) n4 (elV tyF f4) n6 (elV tyC f6)).ble (de n0 (elV tyR f0) n2 (elV tyT f2) n4 (elV tyF f4) n6 (elV tyC f6))) (.br (!!F40 (cY n0 (elV tyR f0) n2 (elV tyT f2) n4 (elV tyF f4) n6 (elV tyC f6)) (elV tp1 (dB n0 (elV tyR f0) n2 (elV tyT f2) n4 (elV tyF f4) n6 (elV tyC f6))) (de n0 (elV tyR f0) n2 (elV tyT f2) n4 (elV tyF f4) n6 (elV tyC f6)) (elV tp1 (dA n0 (elV tyR f0) n2 (elV tyT f2) n4 (elV tyF f4) n6 (elV tyC f6)))) (.ob (!!F40 (cY n0 (elV tyR f0) n2 (elV tyT f2) n4 (elV tyF f4) n6 (elV tyC f6)) (elV tp1 (dB n0 (elV tyR f0) n2 (elV tyT f2) n4 (elV tyF f4) n6 (elV tyC f6))) (de n0 (elV tyR f0) n2 (elV tyT f2) n4 (elV tyF f4) n6 (elV tyC f6)) (elV tp1 (dA n0 (elV tyR f0) n2 (elV tyT f2) n4 (elV tyF f4) n6 (elV tyC f6)))) (.ob (!!F40 (cY n0 (elV tyR f0) n2 (elV tyT f2) n4 (elV tyF f4) n6 (elV tyC f6)) (elV tp1 (dB n0 (elV tyR f0) n2 (elV tyT f2) n4 (elV tyF f4) n6 (elV tyC f6))) (de n0 (elV tyR f0) n2 (elV tyT f2) n4 (elV tyF f4) n6 (elV tyC f6)) (elV tp1 (dA n0 (elV tyR f0) n2 (elV tyT f2) n4 (elV tyF f4) n6 (elV tyC f6)))) (.obc (.obt (.ob ((dk n0 (elV tyR f0) n2 (elV tyT f2) n4 (elV tyF f4) n6 (elV tyC f6) x8).ble (dk n0 (elV tyR f0) n2 (elV tyT f2) n4 (elV tyF f4) n6 (elV tyC f6) x8)) (.ob ((dw n0 (elV tyR f0) n2 (elV tyT f2) n4 (elV tyF f4) n6 (elV tyC f6) x8).ble (dw n0 (elV tyR f0) n2 (elV tyT f2) n4 (elV tyF f4) n6 (elV tyC f6) x8)) (.br (!F40 (dk n0 (elV tyR f0) n2 (elV tyT f2) n4 (elV tyF f4) n6 (elV tyC f6) x8) (elV tp1 (dQ n0 (elV tyR f0) n2 (elV tyT f2) n4 (elV tyF f4) n6 (elV tyC f6) x8)) (dw n0 (elV tyR f0) n2 (elV tyT f2) n4 (elV tyF f4) n6 (elV tyC f6) x8) (elV tp1 (dS n0 (elV tyR f0) n2 (elV tyT f2) n4 (elV tyF f4) n6 (elV tyC f6) x8))) (.ret (V.kb false)) (.obp ((∀ (i:Nat),i < n0->(sv (hdV (f0 i))).size<=(9223372036854775807:Nat))/\∀ (i:Nat),i < n6->(sv (hdV (f6 i))).size<=(9223372036854775807:Nat)) (.obp ((∀ (i:Nat),i < n0->(sv (hdV (f0 i))).size<=(9223372036854775807:Nat))/\∀ (i:Nat),i < n6->(sv (hdV (f6 i))).size<=(9223372036854775807:Nat)) (.obt (.br (cG n0 (elV tyR f0) n2 (elV tyT f2) n4 (elV tyF f4) n6 (elV tyC f6) != 0) (.obi (.asm ((!ei n0 (elV tyR f0) n2 (elV tyT f2) n4 (elV tyF f4) n6 (elV tyC f6) != cG n0 (elV tyR f0) n2 (elV tyT f2) n4 (elV tyF f4) n6 (elV tyC f6))=true->dY n0 (elV tyR f0) n2 (elV tyT f2) n4 (elV tyF f4) n6 (elV tyC f6)<=9223372036854775807) (.obi (.obi (.obi (.obi (.br (bif ei n0 (elV tyR f0) n2 (elV tyT f2) n4 (elV tyF f4) n6 (elV tyC f6) != cG n0 (elV tyR f0) n2 (elV tyT f2) n4 (elV tyF f4) n6 (elV tyC f6) then true else (↑(dY n0 (elV tyR f0) n2 (elV tyT f2) n4 (elV tyF f4) n6 (elV tyC f6)):Int) != 0) (.ret (V.kb false)) (.enter [some none] (S13.L0 (0) (0) (fun i=>[])) [])))))))) (.enter (iR 0 5 [some none,some (some 5)]) (S13.L1 (0) (0) (fun i=>[])) [⟨1,tp1,cY n0 (elV tyR f0) n2 (elV tyT f2) n4 (elV tyF f4) n6 (elV tyC f6),elV tp1 (dB n0 (elV tyR f0) n2 (elV tyT f2) n4 (elV tyF f4) n6 (elV tyC f6)),ah rfl _ _⟩,⟨2,tp1,de n0 (elV tyR f0) n2 (elV tyT f2) n4 (elV tyF f4) n6 (elV tyC f6),elV tp1 (dA n0 (elV tyR f0) n2 (elV tyT f2) n4 (elV tyF f4) n6 (elV tyC f6)),ah rfl _ _⟩,⟨3,tp1,dk n0 (elV tyR f0) n2 (elV tyT f2) n4 (elV tyF f4) n6 (elV tyC f6) x8,elV tp1 (dQ n0 (elV tyR f0) n2 (elV tyT f2) n4 (elV tyF f4) n6 (elV tyC f6) x8),ah rfl _ _⟩,⟨4,tp1,dw n0 (elV tyR f0) n2 (elV tyT f2) n4 (elV tyF f4) n6 (elV tyC f6) x8,elV tp1 (dS n0 (elV tyR f0) n2 (elV tyT f2) n4 (elV tyF f4) n6 (elV tyC f6) x8),ah rfl _ _⟩])))))))))))) (.ret (V.kb false))))))))) (.ret (V.kb false)))))))))
theorem My (n0:Nat) (f0:FnV) (n2:Nat) (f2:FnV) (n4:Nat) (f4:FnV) (n6:Nat) (f6:FnV) (x8:Int):ep qQ u0 (D13 n0 f0 n2 f2 n4 f4 n6 f6 x8) (Ji n0 f0 n2 f2 n4 f4 n6 f6 x8) (m13 n0 f0 n2 f2 n4 f4 n6 f6 x8) (oy n0 f0 n2 f2 n4 f4 n6 f6 x8):=⟨⟨by kernel_rfl,by kernel_rfl⟩,fun s=>by cases s <;> exact ⟨by kernel_rfl,by kernel_rfl⟩⟩
end
end Go.Dx
namespace Go.Dx
open Go.IntKind (i64 u64 u8)
open Go.Sx Go.Proofs Go.Jn
section
variable {n0:Nat} {f0:Nat->List V} {n2:Nat} {f2:Nat->List V} {n4:Nat} {f4:Nat->List V} {n6:Nat} {f6:Nat->List V} {x8:Int}
theorem E37:lS n0 (elV tyR f0) n2 (elV tyT f2) n4 (elV tyF f4) n6 (elV tyC f6)=bA n0 (elV tyR f0) n2 (elV tyT f2) n4 (elV tyF f4) n6 (elV tyC f6):=by
 unfold lS; rw [Fm]; simp only [nj]
theorem E91:cG n0 (elV tyR f0) n2 (elV tyT f2) n4 (elV tyF f4) n6 (elV tyC f6)=bA n0 (elV tyR f0) n2 (elV tyT f2) n4 (elV tyF f4) n6 (elV tyC f6):=by
 unfold cG; simp only [nj]
theorem E38:mY n0 (elV tyR f0) n2 (elV tyT f2) n4 (elV tyF f4) n6 (elV tyC f6)=bA n0 (elV tyR f0) n2 (elV tyT f2) n4 (elV tyF f4) n6 (elV tyC f6):=by
 unfold mY; simp only [nj]; exact E91
theorem E41:ei n0 (elV tyR f0) n2 (elV tyT f2) n4 (elV tyF f4) n6 (elV tyC f6)=bA n0 (elV tyR f0) n2 (elV tyT f2) n4 (elV tyF f4) n6 (elV tyC f6):=by
 unfold ei; rw [Fm]; simp only [nj]
theorem E34:l5 n0 (elV tyR f0) n2 (elV tyT f2) n4 (elV tyF f4) n6 (elV tyC f6) x8=ix1 (bA n0 (elV tyR f0) n2 (elV tyT f2) n4 (elV tyF f4) n6 (elV tyC f6)) x8 n0:=by
 unfold l5
 have hc:=Ml (n0:=n0) (f0:=f0) (n2:=n2) (f2:=f2) (n4:=n4) (f4:=f4) (n6:=n6) (f6:=f6) (i:=x8) (m:=n0) (fun h=>by have:=(sM h).l0; omega)
 simp only [nj] at hc ⊢
 exact hc
theorem E39:ml n0 (elV tyR f0) n2 (elV tyT f2) n4 (elV tyF f4) n6 (elV tyC f6) x8=ix1 (bA n0 (elV tyR f0) n2 (elV tyT f2) n4 (elV tyF f4) n6 (elV tyC f6)) x8 n0:=by
 unfold ml
 simp only [nj]
 exact Hc
theorem qz {n:Nat} {f g:Nat->List V} (h:∀ j,j < n->jv0 (f j)=jv0 (g j)):F40 n f n g=true:=by
 unfold F40
 rw [show ((n:Int) != (n:Int))=false by simp,cond_false,bG fun i hi=>by unfold p40; rw [h i hi]; simp]
 rfl
theorem RE (he:bA n0 (elV tyR f0) n2 (elV tyT f2) n4 (elV tyF f4) n6 (elV tyC f6)=0) {i:Nat} (hi:i < n6):q37 n0 (elV tyR f0) (elV tyC f6) i=q38 n0 (elV tyR f0) (elV tyC f6) i:=by
 have hv:=sM he
 obtain ⟨c1,c2,_⟩:=I4 (HU (hv.cl i hi))
 unfold q37 nk tq
 rw [ko]
 unfold q38
 refine j9 fun j hj=>?_
 have hr:=Ac (hv.rd j hj)
 unfold sR w38
 show (bif (jv1 (elV tyR f0 j) != 1) then F74 _ _ _ _ _ else false)=_
 cases hk:(jv1 (elV tyR f0 j) != 1) with
 | false=>rfl
 | true =>
   rw [cond_true,Bool.true_and]
   exact Kc hr (by unfold pl; omega) (by unfold pl; omega)
theorem Ct:cY n0 (elV tyR f0) n2 (elV tyT f2) n4 (elV tyF f4) n6 (elV tyC f6)=de n0 (elV tyR f0) n2 (elV tyT f2) n4 (elV tyF f4) n6 (elV tyC f6)/\(bA n0 (elV tyR f0) n2 (elV tyT f2) n4 (elV tyF f4) n6 (elV tyC f6)=0->dB n0 (elV tyR f0) n2 (elV tyT f2) n4 (elV tyF f4) n6 (elV tyC f6)=dA n0 (elV tyR f0) n2 (elV tyT f2) n4 (elV tyF f4) n6 (elV tyC f6)):=by
 have key (he:bA n0 (elV tyR f0) n2 (elV tyT f2) n4 (elV tyF f4) n6 (elV tyC f6)=0):stI (q37 n0 (elV tyR f0) (elV tyC f6)) n6=stI (q38 n0 (elV tyR f0) (elV tyC f6)) n6:=tj n6 fun i hi=>RE he hi
 refine ⟨?_,fun he=>?_⟩
 ·unfold cY de
  rw [E37,E38]
  by_cases he:bA n0 (elV tyR f0) n2 (elV tyT f2) n4 (elV tyF f4) n6 (elV tyC f6)=0
  ·rw [key he]
  ·rw [show (bA n0 (elV tyR f0) n2 (elV tyT f2) n4 (elV tyF f4) n6 (elV tyC f6) != 0)=true from by simpa using he,cond_true,cond_true]
 ·unfold dB dA; rw [key he]
theorem Gt:F40 (cY n0 (elV tyR f0) n2 (elV tyT f2) n4 (elV tyF f4) n6 (elV tyC f6)) (elV tp1 (dB n0 (elV tyR f0) n2 (elV tyT f2) n4 (elV tyF f4) n6 (elV tyC f6))) (de n0 (elV tyR f0) n2 (elV tyT f2) n4 (elV tyF f4) n6 (elV tyC f6)) (elV tp1 (dA n0 (elV tyR f0) n2 (elV tyT f2) n4 (elV tyF f4) n6 (elV tyC f6)))=true:=by
 by_cases he:bA n0 (elV tyR f0) n2 (elV tyT f2) n4 (elV tyF f4) n6 (elV tyC f6)=0
 ·rw [Ct.1,Ct.2 he]; exact qz fun _ _=>rfl
 ·rw [← Ct.1]
  refine qz fun j hj=>absurd hj ?_
  unfold cY
  rw [E37,show (bA n0 (elV tyR f0) n2 (elV tyT f2) n4 (elV tyF f4) n6 (elV tyC f6) != 0)=true from by simpa using he,cond_true]
  exact Nat.not_lt_zero _
theorem tc {p q:Nat->Bool}:∀ k,(∀ i,0 < i->i < k->p i=q i)->bnL p k=bnL q k
 | 0,_=>rfl
 | k+1,h=>by
   unfold bnL
   rw [tc k fun i h0 hi=>h i h0 (by omega)]
   by_cases h0:0 < k
   ·rw [h k h0 (by omega)]
   ·rw [dqf h0,Bool.false_and,Bool.false_and]
theorem DE {a b:Int} (a1:-200000<=a) (a2:a<=200000) (b1:-200000<=b) (b2:b<=200000):-40000000000<=a * b/\a * b<=40000000000:=by
 have k1:=imn (show 0<=200000 - a by omega) (show 0<=200000 - b by omega)
 have k2:=imn (show 0<=200000+a by omega) (show 0<=200000 - b by omega)
 have k3:=imn (show 0<=200000 - a by omega) (show 0<=200000+b by omega)
 have k4:=imn (show 0<=200000+a by omega) (show 0<=200000+b by omega)
 have e1:(200000 - a) * (200000 - b)=40000000000 - 200000 * a - 200000 * b+a * b:=by grind
 have e2:(200000+a) * (200000 - b)=40000000000+200000 * a - 200000 * b - a * b:=by grind
 have e3:(200000 - a) * (200000+b)=40000000000 - 200000 * a+200000 * b - a * b:=by grind
 have e4:(200000+a) * (200000+b)=40000000000+200000 * a+200000 * b+a * b:=by grind
 omega
theorem H2 {a b c p q r:Int} (h1:-100000<=a/\a<=100000) (h2:-100000<=b/\b<=100000) (h3:-100000<=c/\c<=100000) (h4:-100000<=p/\p<=100000) (h5:-100000<=q/\q<=100000) (h6:-100000<=r/\r<=100000) :
 decide (cP (aH (i64.wrap (2 * c)) (i64.wrap (2 * b))) (aI (i64.wrap (2 * r)) (i64.wrap (2 * q))) (aH (i64.wrap (2 * b)) (i64.wrap (2 * a))) (aI (i64.wrap (2 * q)) (i64.wrap (2 * p)))<=0) =
  decide (dI (aN b a) (aM q p) (aN c b) (aM r q)<=0):=by
 unfold cP aH aI dI aN aM
 rw [(dpt h1).1,(dpt h2).1,(dpt h3).1,(dpt h4).1,(dpt h5).1,(dpt h6).1]
 rw [av (x:=2 * c - 2 * b) (by omega) (by omega),av (x:=2 * r - 2 * q) (by omega) (by omega),av (x:=2 * b - 2 * a) (by omega) (by omega),av (x:=2 * q - 2 * p) (by omega) (by omega)]
 rw [av (x:=b - a) (by omega) (by omega),av (x:=q - p) (by omega) (by omega),av (x:=c - b) (by omega) (by omega),av (x:=r - q) (by omega) (by omega)]
 have m1:=DE (a:=b - a) (b:=c - b) (by omega) (by omega) (by omega) (by omega)
 have m2:=DE (a:=q - p) (b:=r - q) (by omega) (by omega) (by omega) (by omega)
 have e1:(2 * c - 2 * b) * (2 * b - 2 * a)=4 * ((b - a) * (c - b)):=by grind
 have e2:(2 * r - 2 * q) * (2 * q - 2 * p)=4 * ((q - p) * (r - q)):=by grind
 rw [e1,e2]
 generalize (b - a) * (c - b)=m at *
 generalize (q - p) * (r - q)=k at *
 rw [av (x:=4 * m) (by omega) (by omega),av (x:=4 * k) (by omega) (by omega),av (x:=4 * m+4 * k) (by omega) (by omega)]
 rw [av (x:=m) (by omega) (by omega),av (x:=k) (by omega) (by omega),av (x:=m+k) (by omega) (by omega)]
 rw [decide_eq_decide]
 omega
theorem NV (hr:oz (ap (hdV (tlV (tlV (f0 x8.toNat))))) (fun j=>ak tp2 (atV (hdV (tlV (tlV (f0 x8.toNat)))) j)) (jv3 (f0 x8.toNat))) {k:Nat} (h0:0 < k) (hk:k < ap (hdV (tlV (tlV (f0 x8.toNat)))) - 1):bqB (elV tyR f0) x8 k=bqR (elV tyR f0) x8 k:=by
 obtain ⟨a1,a2⟩:=hr.pts (k - 1) (by omega)
 obtain ⟨b1,b2⟩:=hr.pts k (by omega)
 obtain ⟨c1,c2⟩:=hr.pts (k+1) (by omega)
 have e:k - 1+1=k:=by omega
 unfold bqB bqR dxB dyB
 rw [e]
 exact H2 a1 b1 c1 a2 b2 c2
theorem Cn:dk n0 (elV tyR f0) n2 (elV tyT f2) n4 (elV tyF f4) n6 (elV tyC f6) x8=dw n0 (elV tyR f0) n2 (elV tyT f2) n4 (elV tyF f4) n6 (elV tyC f6) x8/\(ix1 (bA n0 (elV tyR f0) n2 (elV tyT f2) n4 (elV tyF f4) n6 (elV tyC f6)) x8 n0=0->dQ n0 (elV tyR f0) n2 (elV tyT f2) n4 (elV tyF f4) n6 (elV tyC f6) x8=dS n0 (elV tyR f0) n2 (elV tyT f2) n4 (elV tyF f4) n6 (elV tyC f6) x8):=by
 have key (he:ix1 (bA n0 (elV tyR f0) n2 (elV tyT f2) n4 (elV tyF f4) n6 (elV tyC f6)) x8 n0=0):bnL (bqB (elV tyR f0) x8) (ap (hdV (tlV (tlV (elV tyR f0 x8.toNat)))) - 1)=bnL (bqR (elV tyR f0) x8) (ap (hdV (tlV (tlV (elV tyR f0 x8.toNat)))) - 1) :=
  tc _ fun i h0 hi=>NV (pJ he) h0 hi
 refine ⟨?_,fun he=>?_⟩
 ·unfold dk dw
  rw [E34,E39]
  by_cases he:ix1 (bA n0 (elV tyR f0) n2 (elV tyT f2) n4 (elV tyF f4) n6 (elV tyC f6)) x8 n0=0
  ·rw [key he]
  ·rw [show (ix1 (bA n0 (elV tyR f0) n2 (elV tyT f2) n4 (elV tyF f4) n6 (elV tyC f6)) x8 n0 != 0)=true from by simpa using he,cond_true,cond_true]
 ·unfold dQ dS; rw [key he]
theorem FG:F40 (dk n0 (elV tyR f0) n2 (elV tyT f2) n4 (elV tyF f4) n6 (elV tyC f6) x8) (elV tp1 (dQ n0 (elV tyR f0) n2 (elV tyT f2) n4 (elV tyF f4) n6 (elV tyC f6) x8)) (dw n0 (elV tyR f0) n2 (elV tyT f2) n4 (elV tyF f4) n6 (elV tyC f6) x8) (elV tp1 (dS n0 (elV tyR f0) n2 (elV tyT f2) n4 (elV tyF f4) n6 (elV tyC f6) x8))=true:=by
 by_cases he:ix1 (bA n0 (elV tyR f0) n2 (elV tyT f2) n4 (elV tyF f4) n6 (elV tyC f6)) x8 n0=0
 ·rw [Cn.1,Cn.2 he]; exact qz fun _ _=>rfl
 ·rw [← Cn.1]
  refine qz fun j hj=>absurd hj ?_
  unfold dk
  rw [E34,show (ix1 (bA n0 (elV tyR f0) n2 (elV tyT f2) n4 (elV tyF f4) n6 (elV tyC f6)) x8 n0 != 0)=true from by simpa using he,cond_true]
  exact Nat.not_lt_zero _
end
end Go.Dx
namespace Go.Dx
open Go.Sx Go.Proofs Go.Jn
def IOk (n:Nat) (f:Nat->List V) (l:List Nat):Prop:=n=l.length/\∀ j,j < l.length->iv (hdV (f j))=((l.getD j 0:Nat):Int)
def JOk (c:List V) (e:J):Prop:=(iv (hdV c)=e.1.1/\iv (hdV (tlV c))=e.1.2)/\IOk (ap (hdV (tlV (tlV c)))) (atV (hdV (tlV (tlV c)))) e.2
def LOk (n:Nat) (f:Nat->List V) (o:List J):Prop:=n=o.length/\∀ (j:Nat) (y:J),o[j]? = some y->JOk (f j) y
theorem IOk.el {n:Nat} {f:Nat->List V} {l:List Nat} (h:IOk n f l):IOk n (elV [Ty.int IntKind.i64] f) l:=⟨h.1,fun j hj=>h.2 j hj⟩
theorem JOk.el {c:List V} {e:J} (h:JOk c e):JOk (ak [Ty.int IntKind.i64,Ty.int IntKind.i64,Ty.sl [Ty.int IntKind.i64]] c) e:=⟨⟨h.1.1,h.1.2⟩,h.2.1,fun j hj=>h.2.2 j hj⟩
theorem LOk.el {n:Nat} {f:Nat->List V} {o:List J} (h:LOk n f o):LOk n (elV [Ty.int IntKind.i64,Ty.int IntKind.i64,Ty.sl [Ty.int IntKind.i64]] f) o:=⟨h.1,fun j y hy=>(h.2 j y hy).el⟩
theorem zu {n:Nat} {f g:Nat->List V} {j:Nat} (h:j < n):bb n f g j=f j:=by
 unfold bb
 have hb:Nat.blt j n=true:=Nat.ble_eq_true_of_le h
 rw [hb]; rfl
theorem AV {n:Nat} {f g:Nat->List V} {j:Nat} (h:n<=j):bb n f g j=g (j - n):=by
 unfold bb
 have hb:Nat.blt j n=false:=by
  cases hb:Nat.blt j n with
  | false=>rfl
  | true=>have:=Nat.le_of_ble_eq_true hb; omega
 rw [hb]; rfl
theorem IOk.snoc {n:Nat} {f:Nat->List V} {l:List Nat} (h:IOk n f l) (k:Nat):IOk (n+1) (bb n (elV [Ty.int IntKind.i64] f) fun _=>[V.int IntKind.i64 (k:Int)]) (l++[k]):=by
 obtain ⟨rfl,h2⟩:=h
 refine ⟨by simp,fun j hj=>?_⟩
 by_cases hlt:j < l.length
 ·rw [zu hlt]
  show iv (hdV (f j))=_
  rw [h2 j hlt]
  simp only [List.getD]
  rw [List.getElem?_append_left hlt]
 ·have e:j=l.length:=by simp at hj; omega
  rw [AV (by omega),e]
  simp [hdV,iv]
def eqq (f0:Nat->List V) (x y:Int) (k j:Nat):Bool:=iv (hdV (atV (hdV (tlV (tlV (f0 k)))) j)) == x && (iv (hdV (tlV (atV (hdV (tlV (tlV (f0 k)))) j))) == y && true)
theorem J6 {f0:Nat->List V} {x y:Int} {k:Nat}:exB (ap (hdV (tlV (tlV (f0 k))))) (eqq f0 x y k)=decide (((x,y):Pt) ∈ cV (jpL f0 k) (jpF f0 k)):=by
 rw [Bool.eq_iff_iff,uo,decide_eq_true_eq]
 unfold cV eqq
 simp only [List.mem_map,List.mem_range,Prod.mk.injEq,Bool.and_eq_true,beq_iff_eq,and_true]
def atk (f0:Nat->List V) (p:Pt) (k:Nat):List Nat:=(List.range k).filter fun i=>decide (p ∈ cV (jpL f0 i) (jpF f0 i))
theorem Ek {f0:Nat->List V} {x y:Int} {k:Nat}:atk f0 (x,y) (k+1)=bif exB (ap (hdV (tlV (tlV (f0 k))))) (eqq f0 x y k) then atk f0 (x,y) k++[k] else atk f0 (x,y) k:=by
 rw [J6]
 unfold atk
 rw [List.range_succ,List.filter_append]
 cases h:decide (((x,y):Pt) ∈ cV (jpL f0 k) (jpF f0 k)) with
 | true=>simp [h]
 | false=>simp [h]
theorem GB {f0:Nat->List V} {p:Pt} {k:Nat}:(atk f0 p k).length<=k:=by
 have:=List.length_filter_le (fun i=>decide (p ∈ cV (jpL f0 i) (jpF f0 i))) (List.range k)
 rw [List.length_range] at this
 exact this
theorem CX {n0:Nat} {f0:Nat->List V} {p:Pt}:at' (bB n0 f0) p=atk f0 p n0:=by
 unfold at' atk
 have hl:(bB n0 f0).length=n0:=by simp [bB]
 rw [hl]
 apply List.filter_congr
 intro i hi
 rw [nG (List.mem_range.1 hi)]
theorem Da {o:List J} {x:J}:∀ (i:Nat),i<=o.length->(∀ (j:Nat) (y:J),j < i->o[j]? = some y->lt y.1 x.1=true)->ins o x=o.take i++ins (o.drop i) x:=by
 induction o with
 | nil=>intro i hi _; simp
 | cons y r ih =>
   intro i hi h
   cases i with
   | zero=>simp
   | succ i =>
     have h0:=h 0 y (by omega) rfl
     rw [ins,if_pos h0,ih i (by simpa using hi) fun j z hj hz=>h (j+1) z (by omega) (by simpa using hz)]
     simp
theorem FD {o:List J} {x:J}:(ins o x).length<=o.length+1:=by
 induction o with
 | nil=>simp [ins]
 | cons y r ih =>
   simp only [ins]
   split
   ·simp only [List.length_cons]; omega
   ·split
    ·simp
    ·simp
theorem CU {P:List (List Pt)} {o:List J} {p:Pt}:(jt P o p).length<=o.length+1:=by
 unfold jt
 split
 ·omega
 ·exact FD
section
variable {n0:Nat} {f0:Nat->List V} {n2:Nat} {f2:Nat->List V} {n4:Nat} {f4:Nat->List V} {n6:Nat} {f6:Nat->List V} {x8:Int}
theorem l11 {x y:Int} {k:Nat} (hk:k < n0) (h8:n0<=8) {l:List Nat} {o:List J} {nl no:Nat} {g:Nat->List V} {ri pi:Int} {r:V} (hl8:l.length<=8)
 (ih:∀ (nl':Nat) (fl' fo':Nat->List V),IOk nl' fl' (bif exB (ap (hdV (tlV (tlV (f0 k))))) (eqq f0 x y k) then l++[k] else l)->LOk no fo' o->Ev (oy n0 f0 n2 f2 n4 f4 n6 f6 x8) (.L10 ((k+1:Nat):Int) nl' no fo' x y fl' g ri pi) r) :
 ∀ q,q<=ap (hdV (tlV (tlV (f0 k))))->∀ fl fo,IOk nl fl l->LOk no fo o->Ev (oy n0 f0 n2 f2 n4 f4 n6 f6 x8) (.L11 (q:Int) (exB q (eqq f0 x y k)) (k:Int) nl no fo x y fl g ri pi) r:=by
 refine bJ fun q hq ih2 fl fo hl ho=>?_
 have hk1:IntKind.i64.wrap ((k:Int)+1)=((k+1:Nat):Int):=by rw [av (by omega) (by omega)]; omega
 refine Ev.of rfl (ar (decide_eq_true (by omega)) (bt fun hm=>?_))
 simp only [Int.toNat_natCast] at hm
 by_cases hlt:q < ap (hdV (tlV (tlV (f0 k))))
 ·have ih2:=ih2 hlt
  have hq1:IntKind.i64.wrap ((q:Int)+1)=((q+1:Nat):Int):=by rw [av (by omega) (by omega)]; omega
  have o1:(q:Int) < ((ap (hdV (tlV (tlV (f0 k)))):Nat):Int):=by omega
  have o2:(0:Int)<=(q:Int)/\(q:Int) < ((ap (hdV (tlV (tlV (f0 k)))):Nat):Int):=by omega
  refine dT (decide_eq_true o1) (ae (ae (ae (ef (fun _=>decide_eq_true (by omega)) (ae (ae (ae (ae (ef (fun _=>decide_eq_true o2) (ae (ae (ae (ae (aL ?_)))))))))))))) 
  rw [hq1]
  have hs:exB (q+1) (eqq f0 x y k)=(bif exB q (eqq f0 x y k) then true else eqq f0 x y k q):=by
   rw [wQ]; cases exB q (eqq f0 x y k) <;> rfl
  have e:=ih2 _ _ hl.el ho.el
  rw [hs] at e
  exact e
 ·have e:q=ap (hdV (tlV (tlV (f0 k)))):=by omega
  have o1:¬ (q:Int) < ((ap (hdV (tlV (tlV (f0 k)))):Nat):Int):=by omega
  have hl1:=hl.1
  refine dF (decide_eq_false o1) (aC (fun hb=>evObt (ar ?_ (aL ?_))) (fun hb=>aL ?_))
  ·simp only [Bool.and_eq_true]; exact ⟨decide_eq_true ⟨Nat.le_refl _,by omega⟩,rfl⟩
  ·rw [hk1]
   rw [← e,hb,cond_true] at ih
   exact ih _ _ _ (hl.snoc k) ho.el
  ·rw [hk1]
   rw [← e,hb,cond_false] at ih
   exact ih _ _ _ hl.el ho.el
theorem l10 {x y:Int} (h8:n0<=8) {o:List J} {no:Nat} {g:Nat->List V} {ri pi:Int} {r:V}
 (hA:(atk f0 (x,y) n0).length < 2->∀ fo,LOk no fo o->Ev (oy n0 f0 n2 f2 n4 f4 n6 f6 x8) (.L2 (IntKind.i64.wrap (pi+1)) ri no fo) r)
 (hB:2<=(atk f0 (x,y) n0).length->∀ nl fl fo,IOk nl fl (atk f0 (x,y) n0)->LOk no fo o->Ev (oy n0 f0 n2 f2 n4 f4 n6 f6 x8) (.L9 ((0:Nat):Int) nl pi ri no fl x y fo) r) :
 ∀ k,k<=n0->∀ nl fl fo,IOk nl fl (atk f0 (x,y) k)->LOk no fo o->Ev (oy n0 f0 n2 f2 n4 f4 n6 f6 x8) (.L10 (k:Int) nl no fo x y fl g ri pi) r:=by
 refine bJ fun k hk ih nl fl fo hl ho=>?_
 refine Ev.of rfl (bt fun hm=>?_)
 by_cases hlt:k < n0
 ·refine dT (decide_eq_true (by omega)) (aG ?_)
  have h:=l11 (f0:=f0) (n2:=n2) (f2:=f2) (n4:=n4) (f4:=f4) (n6:=n6) (f6:=f6) (x8:=x8) (g:=g) (ri:=ri) (pi:=pi) (r:=r) (nl:=nl) (no:=no) (o:=o) (x:=x) (y:=y) hlt h8 (l:=atk f0 (x,y) k) (Nat.le_trans GB (by omega))
   (fun nl' fl' fo' h1 h2=>?_) 0 (Nat.zero_le _) _ _ hl.el ho.el
  ·exact h
  ·rw [← Ek] at h1
   exact ih hlt nl' fl' fo' h1 h2
 ·have e:k=n0:=by omega
  subst e
  have hl1:=hl.1
  refine dF (decide_eq_false (by omega)) (aC (fun h=>aL ?_) (fun h=>aG ?_))
  ·have h:=of_decide_eq_true h
   exact hA (by omega) _ ho.el
  ·have h:=of_decide_eq_false h
   exact hB (by omega) _ _ _ hl.el ho.el
end
theorem JOk.mk1 {x y:Int} {nl:Nat} {fl:Nat->List V} {l:List Nat} (hl:IOk nl fl l):JOk [V.int IntKind.i64 x,V.int IntKind.i64 y,V.sl nl (elV [Ty.int IntKind.i64] fl)] ((x,y),l):=⟨⟨rfl,rfl⟩,hl.1,fun j hj=>hl.2 j hj⟩
theorem LOk.ins {n i:Nat} {f c g:Nat->List V} {o:List J} {e:J} (h:LOk n f o) (hi:i<=n) (hc:JOk (c 0) e) (hg:∀ j,j < n - i->∀ y,JOk (f (i+j)) y->JOk (g j) y) :
 LOk (i+(1+(n - i))) (bb i (elV [Ty.int IntKind.i64,Ty.int IntKind.i64,Ty.sl [Ty.int IntKind.i64]] f) (bb 1 c g)) (o.take i++e::o.drop i):=by
 obtain ⟨rfl,h2⟩:=h
 have hlt:(o.take i).length=i:=by simp; omega
 refine ⟨by simp; omega,fun j y hy=>?_⟩
 by_cases h1:j < i
 ·rw [zu h1]
  rw [List.getElem?_append_left (by omega),List.getElem?_take,if_pos h1] at hy
  exact (h2 j y hy).el
 ·rw [AV (by omega)]
  rw [List.getElem?_append_right (by omega),hlt] at hy
  by_cases h3:j=i
  ·subst h3
   rw [Nat.sub_self] at hy ⊢
   rw [zu (by omega)]
   rw [List.getElem?_cons_zero] at hy
   cases hy
   exact hc
  ·rw [AV (by omega)]
   obtain ⟨k,rfl⟩:∃ k,j=i+1+k:=⟨j - (i+1),by omega⟩
   rw [show i+1+k - i=k+1 by omega] at hy ⊢
   rw [List.getElem?_cons_succ,List.getElem?_drop] at hy
   rw [Nat.add_sub_cancel]
   have hk:=(List.getElem?_eq_some_iff.1 hy).1
   exact hg k (by omega) y (h2 _ _ hy)
theorem LOk.put {n:Nat} {f c:Nat->List V} {o:List J} {e:J} (h:LOk n f o) (hc:JOk (c 0) e) :
 LOk (n+1) (bb n (elV [Ty.int IntKind.i64,Ty.int IntKind.i64,Ty.sl [Ty.int IntKind.i64]] f) c) (o++[e]):=by
 obtain ⟨rfl,h2⟩:=h
 refine ⟨by simp,fun j y hy=>?_⟩
 by_cases h1:j < o.length
 ·rw [zu h1]
  rw [List.getElem?_append_left (by omega)] at hy
  exact (h2 j y hy).el
 ·rw [AV (by omega)]
  rw [List.getElem?_append_right (by omega)] at hy
  have h3:j=o.length:=by
   have:=(List.getElem?_eq_some_iff.1 hy).1
   simp at this; omega
  subst h3
  rw [Nat.sub_self] at hy ⊢
  rw [List.getElem?_cons_zero] at hy
  cases hy
  exact hc
theorem GU {d:Bool} {a b x y:Int} (hd:d=true):(bif d then bif decide (a < x) then true else bif a == x then decide (b < y) else false else false)=lt (a,b) (x,y):=by
 subst hd
 unfold lt
 rw [cond_true]
 show _=(decide (a < x) || (a == x && decide (b < y)))
 cases decide (a < x) <;> cases (a == x) <;> rfl
theorem GX {d:Bool} {a b x y:Int} (hd:d=true):(bif bif d then a == x else false then b == y else false)=decide (((a,b):Pt)=(x,y)):=by
 subst hd
 rw [cond_true,Bool.eq_iff_iff,decide_eq_true_eq,Prod.mk.injEq]
 cases h:a == x with
 | true=>rw [cond_true,beq_iff_eq]; exact ⟨fun e=>⟨by simpa using h,e⟩,fun e=>e.2⟩
 | false=>rw [cond_false]; exact ⟨fun e=>Bool.noConfusion e,fun e=>by rw [e.1] at h; simp at h⟩
theorem E0 {o:List J} {e y0:J} {i:Nat} (hi:o[i]? = some y0) (hp:∀ (j:Nat) (yy:J),j < i->o[j]? = some yy->lt yy.1 e.1=true) (h1:lt y0.1 e.1=false) :
 ins o e=if y0.1=e.1 then o else o.take i++e::o.drop i:=by
 have hl:=(List.getElem?_eq_some_iff.1 hi)
 obtain ⟨hl,rfl⟩:=hl
 rw [Da i (by omega) hp]
 have hd:o.drop i=o[i]::o.drop (i+1):=List.drop_eq_getElem_cons hl
 by_cases he:o[i].1=e.1
 ·rw [if_pos he]
  have:ins (o.drop i) e=o.drop i:=by
   rw [hd,ins,if_neg (by rw [h1]; simp),if_pos he]
  rw [this,List.take_append_drop]
 ·rw [if_neg he]
  have:ins (o.drop i) e=e::o.drop i:=by
   rw [hd,ins,if_neg (by rw [h1]; simp),if_neg he]
  rw [this]
theorem Fw {o:List J} {e:J} (hp:∀ (j:Nat) (yy:J),j < o.length->o[j]? = some yy->lt yy.1 e.1=true):ins o e=o++[e]:=by
 rw [Da o.length (Nat.le_refl _) hp]
 simp [ins]
section
variable {n0:Nat} {f0:Nat->List V} {n2:Nat} {f2:Nat->List V} {n4:Nat} {f4:Nat->List V} {n6:Nat} {f6:Nat->List V} {x8:Int}
theorem l9 {x y:Int} {l:List Nat} {nl:Nat} {o:List J} {no:Nat} {ri pi:Int} {r:V} (h72:o.length<=72)
 (ih0:∀ (n':Nat) (f':Nat->List V),LOk n' f' (ins o ((x,y),l))->Ev (oy n0 f0 n2 f2 n4 f4 n6 f6 x8) (.L2 (IntKind.i64.wrap (pi+1)) ri n' f') r) :
 ∀ i,i<=no->no=o.length->(∀ (j:Nat) (yy:J),j < i->o[j]? = some yy->lt yy.1 (x,y)=true)->∀ fl fo,IOk nl fl l->LOk no fo o->Ev (oy n0 f0 n2 f2 n4 f4 n6 f6 x8) (.L9 (i:Int) nl pi ri no fl x y fo) r:=by
 refine bJ fun i hi ih hno hp fl fo hl ho=>Ev.of rfl ?_
 have hi1:IntKind.i64.wrap ((i:Int)+1)=((i+1:Nat):Int):=by rw [av (by omega) (by omega)]; omega
 have nn:∀ n:Nat,n.ble n=true:=fun n=>Nat.ble_eq_true_of_le (Nat.le_refl _)
 by_cases hlt:i < no
 ·have o3:(0:Int)<=(i:Int)/\(i:Int) < (no:Int)/\no<=no:=⟨by omega,by omega,Nat.le_refl _⟩
  have o4:(i:Int).toNat < no:=by omega
  have hd:decide ((i:Int) < (no:Int))=true:=decide_eq_true (by omega)
  have hio:i < o.length:=by omega
  have hy:o[i]? = some o[i]:=List.getElem?_eq_getElem hio
  obtain ⟨⟨a1,a2⟩,_⟩:=ho.2 i _ hy
  (repeat (first | refine evObt ?_ | refine evObc ?_ | refine ae ?_ | refine ef (fun _=>decide_eq_true o3) ?_ | refine ef (fun _=>decide_eq_true o4) ?_))
  refine aC (fun h=>aL ?_) (fun h=>?_)
  ·have h:lt (iv (hdV (fo i)),iv (hdV (tlV (fo i)))) (x,y)=true:=(GU hd).symm.trans h
   rw [a1,a2] at h
   rw [hi1]
   refine ih hlt hno (fun j yy hj hyy=>?_) _ _ hl.el ho.el
   by_cases e:j=i
   ·subst e
    rw [hy] at hyy
    cases hyy
    exact h
   ·exact hp j yy (by omega) hyy
  ·have h:lt (iv (hdV (fo i)),iv (hdV (tlV (fo i)))) (x,y)=false:=(GU hd).symm.trans h
   rw [a1,a2] at h
   have hins:=E0 (e:=((x,y),l)) hy hp h
   (repeat (first | refine evObt ?_ | refine evObc ?_ | refine ae ?_ | refine ef (fun _=>decide_eq_true o3) ?_ | refine ef (fun _=>decide_eq_true o4) ?_))
   refine aC (fun h2=>aL ?_) (fun h2=>?_)
   ·have h2:decide (((iv (hdV (fo i)),iv (hdV (tlV (fo i)))):Pt)=(x,y))=true:=(GX hd).symm.trans h2
    rw [a1,a2] at h2
    rw [if_pos (of_decide_eq_true h2)] at hins
    refine ih0 _ _ ?_
    rw [hins]
    exact ho.el
   ·have h2:decide (((iv (hdV (fo i)),iv (hdV (tlV (fo i)))):Pt)=(x,y))=false:=(GX hd).symm.trans h2
    rw [a1,a2] at h2
    rw [if_neg (of_decide_eq_false h2)] at hins
    have hb:(no - (i:Int).toNat).beq 0=false:=by
     cases hb:(no - (i:Int).toNat).beq 0 with
     | false=>rfl
     | true=>have:=Nat.eq_of_beq_eq_true hb; omega
    refine evObt (evObt (ar (decide_eq_true (by omega)) (ar (Nat.ble_eq_true_of_le (by omega)) (dF hb (ar ?_ (ar (decide_eq_true (by omega)) (ar (Nat.ble_eq_true_of_le (by omega)) (ar ?_ (ar (nn _) (ar ?_ (z6 ?_)))))))))))
    ·simp only [Bool.and_eq_true]; exact ⟨decide_eq_true ⟨by omega,by omega⟩,rfl⟩
    ·simp only [Bool.and_eq_true]; exact ⟨decide_eq_true (by omega),rfl⟩
    ·simp only [Bool.and_eq_true]; exact ⟨decide_eq_true ⟨Nat.le_refl _,by omega⟩,rfl⟩
    ·rw [Int.toNat_natCast]
     refine ih0 _ _ ?_
     rw [hins]
     exact ho.ins (by omega) (JOk.mk1 hl) fun j hj yy hy=>⟨⟨hy.1.1,hy.1.2⟩,hy.2.1,fun k hk=>hy.2.2 k hk⟩
 ·have hd:decide ((i:Int) < (no:Int))=false:=decide_eq_false (by omega)
  have e:i=no:=by omega
  refine ae (ae ?_)
  rw [hd]
  (repeat (first | refine evObt ?_ | refine evObc ?_ | refine ae ?_ | refine ef (fun h=>Bool.noConfusion (show false=true from h)) ?_))
  refine dF rfl ?_
  (repeat (first | refine evObt ?_ | refine evObc ?_ | refine ae ?_ | refine ef (fun h=>Bool.noConfusion (show false=true from h)) ?_))
  refine dF rfl ?_
  have hb:(no - (i:Int).toNat).beq 0=true:=by
   rw [show no - (i:Int).toNat=0 by omega]; rfl
  have hins:=Fw (o:=o) (e:=((x,y),l)) (by rw [← hno,← e]; exact hp)
  refine evObt (evObt (ar (decide_eq_true (by omega)) (ar (Nat.ble_eq_true_of_le (by omega)) (dT hb (evObt (ar (decide_eq_true (by omega)) (ar (Nat.ble_eq_true_of_le (by omega)) (ar ?_ (evObt (ar ?_ (z6 ?_)))))))))))
  ·simp only [Bool.and_eq_true]; exact ⟨decide_eq_true (by omega),rfl⟩
  ·simp only [Bool.and_eq_true]; exact ⟨decide_eq_true ⟨Nat.le_refl _,by omega⟩,rfl⟩
  ·rw [Int.toNat_natCast,e]
   refine ih0 _ _ ?_
   rw [hins]
   exact ho.put (JOk.mk1 hl)
end
def oR (n0:Nat) (f0:Nat->List V) (r:Nat):List J:=(bB r f0).flatten.foldl (jt (bB n0 f0)) []
def oP (n0:Nat) (f0:Nat->List V) (r j:Nat):List J:=(cV j (jpF f0 r)).foldl (jt (bB n0 f0)) (oR n0 f0 r)
theorem zj {n0:Nat} {f0:Nat->List V} {r j:Nat}:oP n0 f0 r (j+1)=jt (bB n0 f0) (oP n0 f0 r j) (jpX (jpF f0 r) j,jpY (jpF f0 r) j):=by
 unfold oP cV
 rw [List.range_succ,List.map_append,List.foldl_append]
 rfl
theorem FJ {n0:Nat} {f0:Nat->List V} {r:Nat}:oR n0 f0 (r+1)=oP n0 f0 r (jpL f0 r):=by
 have h:bB (r+1) f0=bB r f0++[cV (jpL f0 r) (jpF f0 r)]:=by
  unfold bB; rw [List.range_succ,List.map_append]; rfl
 show (bB (r+1) f0).flatten.foldl (jt (bB n0 f0)) []=(cV (jpL f0 r) (jpF f0 r)).foldl (jt (bB n0 f0)) ((bB r f0).flatten.foldl (jt (bB n0 f0)) [])
 rw [h,List.flatten_append,List.foldl_append]
 simp
theorem qY {P:List (List Pt)}:∀ (ps:List Pt) (o:List J),(ps.foldl (jt P) o).length<=o.length+ps.length
 | [],o=>by simp
 | p::ps,o=>by
   have h1:=qY (P:=P) ps (jt P o p)
   have h2:=CU (P:=P) (o:=o) (p:=p)
   simp only [List.foldl_cons,List.length_cons]
   omega
theorem Ir {n0:Nat} {f0:Nat->List V} {r j:Nat} (h8:n0<=8) (hp:∀ i,i < n0->jpL f0 i<=8) (hr:r < n0) (hj:j<=8):(oP n0 f0 r j).length<=72:=by
 have h1:=qY (P:=bB n0 f0) (cV j (jpF f0 r)) (oR n0 f0 r)
 have h2:=qY (P:=bB n0 f0) (bB r f0).flatten []
 have h3:=qg r f0 (by omega) fun i hi=>hp i (by omega)
 have h4:(cV j (jpF f0 r)).length=j:=by simp [cV]
 unfold oP
 unfold oR at h1 ⊢
 simp only [List.length_nil] at h2
 omega
theorem FX {n m:Nat} {f g:Nat->List V} (hn:n=m) (h:∀ j,j < n->iv (hdV (f j))=iv (hdV (g j))):F40 n f m g=true:=by
 subst hn; exact qz h
theorem zC {c d:Bool} (h1:c=false) (h2:d=false):(bif c then true else d)=false:=by subst h1 h2; rfl
section
variable {n0:Nat} {f0:Nat->List V} {n2:Nat} {f2:Nat->List V} {n4:Nat} {f4:Nat->List V} {n6:Nat} {f6:Nat->List V} {x8:Int}
theorem l2 (h8:n0<=8) (hp:∀ i,i < n0->jpL f0 i<=8) {r:Nat} (hr:r < n0) {res:V}
 (ih:∀ (n:Nat) (f:Nat->List V),LOk n f (oR n0 f0 (r+1))->Ev (oy n0 f0 n2 f2 n4 f4 n6 f6 x8) (.L1 ((r+1:Nat):Int) n f) res) :
 ∀ j,j<=jpL f0 r->∀ (n:Nat) (f:Nat->List V),LOk n f (oP n0 f0 r j)->Ev (oy n0 f0 n2 f2 n4 f4 n6 f6 x8) (.L2 (j:Int) (r:Int) n f) res:=by
 refine bJ fun j hj ih2 n f ho=>?_
 have hr8:=hp r hr
 have hr1:IntKind.i64.wrap ((r:Int)+1)=((r+1:Nat):Int):=by rw [av (by omega) (by omega)]; omega
 have hj1:IntKind.i64.wrap ((j:Int)+1)=((j+1:Nat):Int):=by rw [av (by omega) (by omega)]; omega
 refine Ev.of rfl (ar (decide_eq_true (by omega)) (bt fun hm=>?_))
 by_cases hlt:j < jpL f0 r
 ·have hlt2:j < ap (hdV (tlV (tlV (f0 r)))):=hlt
  have o1:(j:Int) < ((ap (hdV (tlV (tlV (f0 r)))):Nat):Int):=by omega
  have o2:(0:Int)<=(j:Int)/\(j:Int) < ((ap (hdV (tlV (tlV (f0 r)))):Nat):Int):=⟨by omega,o1⟩
  refine dT (decide_eq_true o1) (ar (decide_eq_true (by omega)) (ar (decide_eq_true o2) (aG ?_)))
  have hl:=Ir h8 hp hr (j:=j) (by omega)
  have h:=l10 (f0:=f0) (n2:=n2) (f2:=f2) (n4:=n4) (f4:=f4) (n6:=n6) (f6:=f6) (x8:=x8) (x:=jpX (jpF f0 r) j) (y:=jpY (jpF f0 r) j) h8 (o:=oP n0 f0 r j) (no:=n) (g:=f) (ri:=(r:Int)) (pi:=(j:Int)) (r:=res) (fun ha fo h2=>?_) (fun hb nl fl fo h1 h2=>?_)
   0 (Nat.zero_le _) 0 (fun _=>[]) _ ⟨rfl,fun j hj=>absurd hj (Nat.not_lt_zero _)⟩ ho.el
  ·exact h
  ·rw [hj1]
   refine ih2 hlt _ _ ?_
   rw [zj]; unfold jt; rw [CX,if_pos ha]; exact h2
  ·refine l9 hl (fun n' f' h3=>?_) 0 (Nat.zero_le _) h2.1 (fun _ _ h=>absurd h (Nat.not_lt_zero _)) fl fo h1 h2
   rw [hj1]
   refine ih2 hlt _ _ ?_
   rw [zj]; unfold jt; rw [CX,if_neg (by omega)]; exact h3
 ·have hlt2:¬ j < ap (hdV (tlV (tlV (f0 r)))):=hlt
  have e:j=jpL f0 r:=by omega
  have o1:¬ (j:Int) < ((ap (hdV (tlV (tlV (f0 r)))):Nat):Int):=by omega
  refine dF (decide_eq_false o1) (aL ?_)
  rw [hr1]
  refine ih _ _ ?_
  rw [FJ,← e]
  exact ho.el
theorem l0:∀ k,k<=(dY n0 (elV tyR f0) n2 (elV tyT f2) n4 (elV tyF f4) n6 (elV tyC f6))->∀ (n:Nat) (f:Nat->List V),LOk n f ((F41_L n0 (elV tyR f0) n2 (elV tyT f2) n4 (elV tyF f4) n6 (elV tyC f6)))->Ev (oy n0 f0 n2 f2 n4 f4 n6 f6 x8) (.L0 (k:Int) n f) (.bool true):=by
 refine bJ fun k hk ih n f ho=>Ev.of rfl (bt fun hm=>?_)
 have hn:n=(dY n0 (elV tyR f0) n2 (elV tyT f2) n4 (elV tyF f4) n6 (elV tyC f6)):=ho.1
 have hm:(dY n0 (elV tyR f0) n2 (elV tyT f2) n4 (elV tyF f4) n6 (elV tyC f6))<=9223372036854775807:=hm
 by_cases hlt:k < (dY n0 (elV tyR f0) n2 (elV tyT f2) n4 (elV tyF f4) n6 (elV tyC f6))
 ·have hk1:IntKind.i64.wrap ((k:Int)+1)=((k+1:Nat):Int):=by rw [av (by omega) (by omega)]; omega
  have hlt':k < ((F41_L n0 (elV tyR f0) n2 (elV tyT f2) n4 (elV tyF f4) n6 (elV tyC f6))).length:=hlt
  have hy:((F41_L n0 (elV tyR f0) n2 (elV tyT f2) n4 (elV tyF f4) n6 (elV tyC f6)))[k]? = some (((F41_L n0 (elV tyR f0) n2 (elV tyT f2) n4 (elV tyF f4) n6 (elV tyC f6))).getD k dJ):=by simp [List.getD,List.getElem?_eq_getElem hlt']
  obtain ⟨⟨a1,a2⟩,a3,a4⟩:=ho.2 k _ hy
  have o1:(k:Int) < (((dY n0 (elV tyR f0) n2 (elV tyT f2) n4 (elV tyF f4) n6 (elV tyC f6)):Nat):Int):=by omega
  have o2:(0:Int)<=(k:Int)/\(k:Int) < (((dY n0 (elV tyR f0) n2 (elV tyT f2) n4 (elV tyF f4) n6 (elV tyC f6)):Nat):Int):=⟨by omega,o1⟩
  have o3:(0:Int)<=(k:Int)/\(k:Int) < (n:Int)/\n<=n:=⟨by omega,by omega,Nat.le_refl _⟩
  have o4:(k:Int).toNat < n:=by omega
  have b1:(iv (hdV ((cX n0 (elV tyR f0) n2 (elV tyT f2) n4 (elV tyF f4) n6 (elV tyC f6) k))) != iv (hdV (f k)))=false:=by rw [a1]; show ((((F41_L n0 (elV tyR f0) n2 (elV tyT f2) n4 (elV tyF f4) n6 (elV tyC f6))).getD k dJ).1.1 != _)=false; simp
  have b2:(iv (hdV (tlV ((cX n0 (elV tyR f0) n2 (elV tyT f2) n4 (elV tyF f4) n6 (elV tyC f6) k)))) != iv (hdV (tlV (f k))))=false:=by rw [a2]; show ((((F41_L n0 (elV tyR f0) n2 (elV tyT f2) n4 (elV tyF f4) n6 (elV tyC f6))).getD k dJ).1.2 != _)=false; simp
  have b3:(!bif (iv (hdV ((cX n0 (elV tyR f0) n2 (elV tyT f2) n4 (elV tyF f4) n6 (elV tyC f6) k))) != iv (hdV (f k))) then true else iv (hdV (tlV ((cX n0 (elV tyR f0) n2 (elV tyT f2) n4 (elV tyF f4) n6 (elV tyC f6) k)))) != iv (hdV (tlV (f k))))=true:=by rw [zC b1 b2]; rfl
  refine dT (decide_eq_true o1) (ar (decide_eq_true o2) (ar (decide_eq_true o3) (ar (decide_eq_true o4) (ae (ae (ef (fun _=>decide_eq_true o2) (ae (ae (ae (ae (ef (fun _=>decide_eq_true o3) (ae (ae (ef (fun _=>decide_eq_true o4) (ae (ae (ae (ae (ae (ef (fun _=>decide_eq_true o2) (ae (ae (ae (ae (ef (fun _=>decide_eq_true o3) (ae (ae (ef (fun _=>decide_eq_true o4) (dT b3 (ar b3 (ar b3 (evObc (evObt (dF ?_ (aL ?_)))))))))))))))))))))))))))))))))))
  ·have:F40 (ap (hdV (tlV (tlV ((cX n0 (elV tyR f0) n2 (elV tyT f2) n4 (elV tyF f4) n6 (elV tyC f6) k)))))) (fun i=>ak [Ty.int IntKind.i64] (atV (hdV (tlV (tlV ((cX n0 (elV tyR f0) n2 (elV tyT f2) n4 (elV tyF f4) n6 (elV tyC f6) k))))) i)) (ap (hdV (tlV (tlV (f k))))) (fun i=>ak [Ty.int IntKind.i64] (atV (hdV (tlV (tlV (f k)))) i))=true:=by
    refine FX a3.symm fun j hj=>?_
    have hj:j < (((F41_L n0 (elV tyR f0) n2 (elV tyT f2) n4 (elV tyF f4) n6 (elV tyC f6))).getD k dJ).2.length:=hj
    show _=iv (hdV (atV (hdV (tlV (tlV (f k)))) j))
    rw [a4 j hj]
    rfl
   show (!F40 (ap (hdV (tlV (tlV ((cX n0 (elV tyR f0) n2 (elV tyT f2) n4 (elV tyF f4) n6 (elV tyC f6) k)))))) (fun i=>ak [Ty.int IntKind.i64] (atV (hdV (tlV (tlV ((cX n0 (elV tyR f0) n2 (elV tyT f2) n4 (elV tyF f4) n6 (elV tyC f6) k))))) i)) (ap (hdV (tlV (tlV (f k))))) (fun i=>ak [Ty.int IntKind.i64] (atV (hdV (tlV (tlV (f k)))) i)))=false
   rw [this]; rfl
  ·rw [hk1]
   exact ih hlt _ _ ho.el
 ·have o1:¬ (k:Int) < (((dY n0 (elV tyR f0) n2 (elV tyT f2) n4 (elV tyF f4) n6 (elV tyC f6)):Nat):Int):=by omega
  exact dF (decide_eq_false o1) (evObc (evObt (evRet rfl)))
theorem l1 (he:(bA n0 (elV tyR f0) n2 (elV tyT f2) n4 (elV tyF f4) n6 (elV tyC f6))=0):∀ r,r<=n0->∀ (n:Nat) (f:Nat->List V),LOk n f (oR n0 f0 r)->Ev (oy n0 f0 n2 f2 n4 f4 n6 f6 x8) (.L1 (r:Int) n f) (.bool true):=by
 have he41:(ei n0 (elV tyR f0) n2 (elV tyT f2) n4 (elV tyF f4) n6 (elV tyC f6))=0:=E41.trans he
 obtain ⟨v1,v2⟩:=nu he41
 have hL:(F41_L n0 (elV tyR f0) n2 (elV tyT f2) n4 (elV tyF f4) n6 (elV tyC f6))=rH (bB n0 f0):=by
  unfold F41_L; rw [he41]; rfl
 refine bJ fun r hr ih n f ho=>Ev.of rfl (bt fun hm=>?_)
 by_cases hlt:r < n0
 ·refine dT (decide_eq_true (by omega)) (aG ?_)
  exact l2 v1 v2 hlt (ih hlt) 0 (Nat.zero_le _) _ _ ho.el
 ·have e:r=n0:=by omega
  rw [e] at ho
  have ho':LOk n f ((F41_L n0 (elV tyR f0) n2 (elV tyT f2) n4 (elV tyF f4) n6 (elV tyC f6))):=by rw [hL]; exact ho
  have hn:n=(dY n0 (elV tyR f0) n2 (elV tyT f2) n4 (elV tyF f4) n6 (elV tyC f6)):=ho'.1
  refine dF (decide_eq_false (by omega)) (ae (bH fun _=>ae (ae (ae (ae (dF ?_ (aG ?_)))))))
  ·refine zC (by rw [he41]; rfl) ?_
   rw [← hn]; simp
  ·exact l0 0 (Nat.zero_le _) _ _ ho'.el
end
theorem M7 (n0:Nat) (f0:Nat->List V) (n2:Nat) (f2:Nat->List V) (n4:Nat) (f4:Nat->List V) (n6:Nat) (f6:Nat->List V) (x8:Int) (hp:bc n0 f0/\bc n6 f6):evR (Ev (oy n0 f0 n2 f2 n4 f4 n6 f6 x8)) (m13 n0 f0 n2 f2 n4 f4 n6 f6 x8) (.bool true):=by
 have b1:(!bif ((lS n0 (elV tyR f0) n2 (elV tyT f2) n4 (elV tyF f4) n6 (elV tyC f6)) != (mY n0 (elV tyR f0) n2 (elV tyT f2) n4 (elV tyF f4) n6 (elV tyC f6))) then true else (l5 n0 (elV tyR f0) n2 (elV tyT f2) n4 (elV tyF f4) n6 (elV tyC f6) x8) != (ml n0 (elV tyR f0) n2 (elV tyT f2) n4 (elV tyF f4) n6 (elV tyC f6) x8))=true:=by
  rw [E37,E38,E34,E39,zC (by simp) (by simp)]; rfl
 have b2:(!!F40 ((cY n0 (elV tyR f0) n2 (elV tyT f2) n4 (elV tyF f4) n6 (elV tyC f6))) (elV [Ty.int IntKind.i64] ((dB n0 (elV tyR f0) n2 (elV tyT f2) n4 (elV tyF f4) n6 (elV tyC f6)))) ((de n0 (elV tyR f0) n2 (elV tyT f2) n4 (elV tyF f4) n6 (elV tyC f6))) (elV [Ty.int IntKind.i64] ((dA n0 (elV tyR f0) n2 (elV tyT f2) n4 (elV tyF f4) n6 (elV tyC f6)))))=true:=by rw [Gt]; rfl
 have b3:(!F40 ((dk n0 (elV tyR f0) n2 (elV tyT f2) n4 (elV tyF f4) n6 (elV tyC f6) x8)) (elV [Ty.int IntKind.i64] ((dQ n0 (elV tyR f0) n2 (elV tyT f2) n4 (elV tyF f4) n6 (elV tyC f6) x8))) ((dw n0 (elV tyR f0) n2 (elV tyT f2) n4 (elV tyF f4) n6 (elV tyC f6) x8)) (elV [Ty.int IntKind.i64] ((dS n0 (elV tyR f0) n2 (elV tyT f2) n4 (elV tyF f4) n6 (elV tyC f6) x8))))=false:=by rw [FG]; rfl
 have nn:∀ n:Nat,n.ble n=true:=fun n=>Nat.ble_eq_true_of_le (Nat.le_refl _)
 refine cD hp (cD hp (cD hp (cD hp (ae (ae (ae (dT b1 (ar b1 (ar b1 (evObc (evObt (ar (nn _) (ar (nn _) (dT b2 (ar b2 (ar b2 (evObc (evObt (ar (nn _) (ar (nn _) (dF b3 (cD hp (cD hp (evObt (aC (fun h=>ae (bH fun _=>ae (ae (ae (ae (dF ?_ (aG ?_))))))) (fun h=>aG ?_))))))))))))))))))))))))))
 ·have h91:(bA n0 (elV tyR f0) n2 (elV tyT f2) n4 (elV tyF f4) n6 (elV tyC f6)) ≠ 0:=by rw [← E91]; simpa using h
  refine zC (by rw [E41,E91]; simp) ?_
  have:(dY n0 (elV tyR f0) n2 (elV tyT f2) n4 (elV tyF f4) n6 (elV tyC f6))=0:=by
   unfold dY F41_L
   rw [E41,show ((bA n0 (elV tyR f0) n2 (elV tyT f2) n4 (elV tyF f4) n6 (elV tyC f6)) != 0)=true from by simpa using h91]; rfl
  rw [this]; rfl
 ·have h91:(bA n0 (elV tyR f0) n2 (elV tyT f2) n4 (elV tyF f4) n6 (elV tyC f6)) ≠ 0:=by rw [← E91]; simpa using h
  refine l0 0 (Nat.zero_le _) _ _ ?_
  have:(F41_L n0 (elV tyR f0) n2 (elV tyT f2) n4 (elV tyF f4) n6 (elV tyC f6))=[]:=by
   unfold F41_L
   rw [E41,show ((bA n0 (elV tyR f0) n2 (elV tyT f2) n4 (elV tyF f4) n6 (elV tyC f6)) != 0)=true from by simpa using h91]; rfl
  rw [this]
  exact ⟨rfl,fun j y hy=>by cases hy⟩
 ·have h91:(bA n0 (elV tyR f0) n2 (elV tyT f2) n4 (elV tyF f4) n6 (elV tyC f6))=0:=by rw [← E91]; simpa using h
  exact l1 h91 0 (Nat.zero_le _) _ _ ⟨rfl,fun j y hy=>by cases hy⟩
def tys13:List Ty:=[.agg [.sl [.str,.int .i64,.sl [.int .i64,.int .i64],.int .i64],.sl [.int .i64,.int .i64,.int .i64,.int .i64,.int .i64],.sl [.int .i64,.int .i64,.int .i64,.int .i64,.sl [.int .i64,.int .i64,.int .i64,.int .i64]],.sl [.str,.int .i64,.int .i64,.int .i64,.int .i64,.int .i64]],.int .i64]
theorem ok13:(vP (lawC tys13)).Ok Tryz.prog 13:=mkE Hx Tryz.func13 (by kernel_rfl) fun ds hp=>rfs (My ..) (M7 _ _ _ _ _ _ _ _ _ (by have h:eg [.agg [.sl [.str,.int .i64,.sl [.int .i64,.int .i64],.int .i64],.sl [.int .i64,.int .i64,.int .i64,.int .i64,.int .i64],.sl [.int .i64,.int .i64,.int .i64,.int .i64,.sl [.int .i64,.int .i64,.int .i64,.int .i64]],.sl [.str,.int .i64,.int .i64,.int .i64,.int .i64,.int .i64]],.int .i64] _:=hp; exact ⟨fun i hi=>(h.1.1 i hi).1,fun i hi=>(h.1.2.2.2.1 i hi).1⟩))
end Go.Dx
