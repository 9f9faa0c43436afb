/- Part 1 of a proof. No conditions. -/
import Derived.CallsIn
import Derived.Laws.Entries
import Derived.OrdersIn
import Derived.RangeFuncOwn
set_option maxRecDepth 100000
set_option linter.unusedVariables false
set_option linter.unusedSimpArgs false
namespace Go.Sx
inductive Ptr where
 | l (k off:Nat)
 | g (a:Addr)
inductive ab where
 | int (k:IntKind) (n:Int)
 | bool (b:Bool)
 | str (s:ByteArray)
 | ptr (p:Option Ptr)
 | slice (p:Option Ptr) (len cap:Nat)
 | fn (f:Fn) (first caps:List ab)
 | agg (cs:List ab)
 | tup (vs:List ab)
 | raw (v:Value)
 | any
inductive ac where
 | dead
 | hid
 | cells (cs:List ab) (ty:TypeId)
abbrev ao:=Nat->Option Nat
def bN (m:ao):Option Ptr->Option Addr->Prop
 | none,q=>q=none
 | some (.g a),q=>q=some a
 | some (.l k off),q=>∃ b,m k=some b/\q=some ⟨b,off,none⟩
mutual
def vrel (m:ao):ab->Value->Prop
 | .int k n,v=>v=.int k n
 | .bool b,v=>v=.bool b
 | .str s,v=>v=.string s
 | .ptr p,v=>∃ q,v=.pointer q/\bN m p q
 | .slice p n c,v=>∃ q,v=.slice q n c/\bN m p q
 | .fn f xs ys,v=>∃ us vs,v=.func f us vs/\af m xs us.toList/\af m ys vs.toList
 | .agg cs,v=>∃ vs,v=.agg vs/\af m cs vs.toList
 | .tup cs,v=>∃ vs,v=.tuple vs/\af m cs vs.toList
 | .raw u,v=>v=u
 | .any,_=>True
def af (m:ao):List ab->List Value->Prop
 | [],vs=>vs=[]
 | x::xs,vs=>∃ u us,vs=u::us/\vrel m x u/\af m xs us
end
def ao.le (m m':ao):Prop:=∀ k b,m k=some b->m' k=some b
theorem ao.le_refl (m:ao):m.le m:=fun _ _ h=>h
theorem ao.le_trans {a b c:ao} (h:a.le b) (k:b.le c):a.le c:=fun i x hx=>k i x (h i x hx)
theorem tF {m m':ao} (h:m.le m'):∀ {p q},bN m p q->bN m' p q
 | none,_,hp=>hp
 | some (.g _),_,hp=>hp
 | some (.l _ _),_,⟨b,hb,hq⟩=>⟨b,h _ _ hb,hq⟩
mutual
theorem Bd {m m':ao} (h:m.le m'):∀ (a:ab) (v:Value),vrel m a v->vrel m' a v
 | .int ..,_,hv=>by simp only [vrel] at hv ⊢; exact hv
 | .bool ..,_,hv=>by simp only [vrel] at hv ⊢; exact hv
 | .str ..,_,hv=>by simp only [vrel] at hv ⊢; exact hv
 | .ptr ..,_,hv=>by simp only [vrel] at hv ⊢; obtain ⟨q,h1,h2⟩:=hv; exact ⟨q,h1,tF h h2⟩
 | .slice ..,_,hv=>by simp only [vrel] at hv ⊢; obtain ⟨q,h1,h2⟩:=hv; exact ⟨q,h1,tF h h2⟩
 | .fn _ xs ys,_,hv=>by
   simp only [vrel] at hv ⊢; obtain ⟨us,vs,h1,h2,h3⟩:=hv; exact ⟨us,vs,h1,bl h xs _ h2,bl h ys _ h3⟩
 | .agg cs,_,hv=>by simp only [vrel] at hv ⊢; obtain ⟨vs,h1,h2⟩:=hv; exact ⟨vs,h1,bl h cs _ h2⟩
 | .tup cs,_,hv=>by simp only [vrel] at hv ⊢; obtain ⟨vs,h1,h2⟩:=hv; exact ⟨vs,h1,bl h cs _ h2⟩
 | .raw _,_,hv=>by simp only [vrel] at hv ⊢; exact hv
 | .any,_,_=>by simp only [vrel]
theorem bl {m m':ao} (h:m.le m'):∀ (az:List ab) (vs:List Value),af m az vs->af m' az vs
 | [],_,hv=>by simp only [af] at hv ⊢; exact hv
 | a::az,_,hv=>by
   simp only [af] at hv ⊢; obtain ⟨u,us,h1,h2,h3⟩:=hv; exact ⟨u,us,h1,Bd h a u h2,bl h az us h3⟩
end
theorem bo {m:ao}:∀ {az:List ab} {vs:List Value},af m az vs->vs.length=az.length
 | [],_,h=>by simp only [af] at h; subst h; rfl
 | _::_,_,h=>by simp only [af] at h; obtain ⟨u,us,rfl,_,h3⟩:=h; simp [bo h3]
theorem cU {m:ao}:∀ {az:List ab} {vs:List Value} (i:Nat) {a:ab},af m az vs->az[i]? = some a->∃ v,vs[i]? = some v/\vrel m a v
 | [],_,_,_,_,h=>by simp at h
 | _::_,_,0,_,hr,h=>by
   simp only [af] at hr; obtain ⟨u,us,rfl,h2,_⟩:=hr
   simp at h; subst h; exact ⟨u,rfl,h2⟩
 | _::_,_,i+1,_,hr,h=>by
   simp only [af] at hr; obtain ⟨u,us,rfl,_,h3⟩:=hr
   simp at h
   obtain ⟨v,hv,hr⟩:=cU i h3 h
   exact ⟨v,by simpa using hv,hr⟩
theorem iW {m:ao} {az:List ab} {vs:List Value} (h:af m az vs) (i:Nat) (d:Value):vrel m (az.getD i .any) (vs.getD i d):=by
 cases ha:az[i]? with
 | none=>simp [List.getD,ha,vrel]
 | some a =>
   obtain ⟨v,hv,hr⟩:=cU i h ha
   simp [List.getD,ha,hv,hr]
theorem ej {m:ao}:∀ {az:List ab} {vs:List Value} (i:Nat) {a:ab} {v:Value},af m az vs->vrel m a v->af m (az.set i a) (vs.set i v)
 | [],_,_,_,_,h,_=>by simp only [af] at h; subst h; simp [af]
 | _::_,_,0,_,_,hr,h=>by
   simp only [af] at hr; obtain ⟨u,us,rfl,h2,h3⟩:=hr
   simp only [List.set_cons_zero,af]; exact ⟨_,_,rfl,h,h3⟩
 | _::_,_,i+1,_,_,hr,h=>by
   simp only [af] at hr; obtain ⟨u,us,rfl,h2,h3⟩:=hr
   simp only [List.set_cons_succ,af]; exact ⟨_,_,rfl,h2,ej i h3 h⟩
theorem bC {m:ao}:∀ {az bs:List ab} {us vs:List Value},af m az us->af m bs vs->af m (az++bs) (us++vs)
 | [],_,_,_,h,k=>by simp only [af] at h; subst h; simpa using k
 | _::_,_,_,_,h,k=>by
   simp only [af] at h; obtain ⟨u,us,rfl,h2,h3⟩:=h
   simp only [List.cons_append,af]; exact ⟨_,_,rfl,h2,bC h3 k⟩
theorem gA {m:ao}:∀ {az:List ab} {vs:List Value} (i:Nat),af m az vs->af m (az.take i) (vs.take i)
 | [],_,i,h=>by simp only [af] at h; subst h; simp [af]
 | _::_,_,0,_=>by simp [af]
 | _::_,_,i+1,h=>by
   simp only [af] at h; obtain ⟨u,us,rfl,h2,h3⟩:=h
   simp only [List.take_succ_cons,af]; exact ⟨_,_,rfl,h2,gA i h3⟩
theorem iX {m:ao}:∀ {az:List ab} {vs:List Value} (i:Nat),af m az vs->af m (az.drop i) (vs.drop i)
 | [],_,i,h=>by simp only [af] at h; subst h; simp [af]
 | _::_,_,0,h=>h
 | _::_,_,i+1,h=>by
   simp only [af] at h; obtain ⟨u,us,rfl,h2,h3⟩:=h
   simp only [List.drop_succ_cons]; exact iX i h3
theorem cO {m:ao}:∀ (n:Nat) (v:Value),af m (List.replicate n .any) (List.replicate n v)
 | 0,_=>by simp [af]
 | n+1,v=>by simp only [List.replicate_succ,af]; exact ⟨_,_,rfl,by simp [vrel],cO n v⟩
def iE:Value->Bool
 | .agg _ | .tuple _=>false
 | _=>true
def ab.cells:ab->List ab
 | .agg cs=>cs
 | a=>[a]
def ab.one:ab->Bool
 | .agg _ | .tup _ | .any=>false
 | .raw v=>iE v
 | _=>true
def ab.flat:ab->Bool
 | .agg cs=>cs.all ab.one
 | a=>a.one
theorem xf {m:ao} {a:ab} {v:Value} (h:vrel m a v) (h1:a.one=true):iE v=true:=by
 cases a <;> simp only [vrel] at h
 case int=>subst h; rfl
 case bool=>subst h; rfl
 case str=>subst h; rfl
 case ptr=>obtain ⟨q,rfl,_⟩:=h; rfl
 case slice=>obtain ⟨q,rfl,_⟩:=h; rfl
 case fn=>obtain ⟨_,_,rfl,_⟩:=h; rfl
 case raw=>subst h; simpa [ab.one] using h1
 all_goals simp [ab.one] at h1
theorem nI {v:Value} (h:iE v=true):v.cells=#[v]:=by
 cases v <;> simp_all [iE,Value.cells]
theorem jc {m:ao} {a:ab} {v:Value} (h:vrel m a v) (h1:a.flat=true):af m a.cells v.cells.toList/\∀ u ∈ v.cells.toList,iE u=true:=by
 cases a with
 | agg cs =>
   simp only [vrel] at h; obtain ⟨vs,rfl,h2⟩:=h
   refine ⟨h2,?_⟩
   simp only [ab.flat] at h1
   simp only [Value.cells]
   generalize vs.toList=l at h2
   induction cs generalizing l with
   | nil=>simp only [af] at h2; subst h2; simp
   | cons c cs ih =>
     simp only [af] at h2; obtain ⟨u,us,rfl,h3,h4⟩:=h2
     simp only [List.all_cons,Bool.and_eq_true] at h1
     intro x hx
     rcases List.mem_cons.1 hx with rfl | hx
     ·exact xf h3 h1.1
     ·exact ih h1.2 us h4 x hx
 | _ =>
   have h3:=xf h (by simpa [ab.flat] using h1)
   rw [nI h3]
   exact ⟨by simp only [ab.cells,af]; exact ⟨_,_,rfl,h,rfl⟩,by simpa using h3⟩
structure bm where
 w0:World
 wf:World
 own:Nat->Prop
 ds:List Deferred
structure aw (B:bm) (m:ao) (lh:List ac) (w:World):Prop where
 os:w.os=B.wf.os
 tape:w.tape=B.wf.tape
 output:w.output=B.wf.output
 size:B.w0.heap.size<=w.heap.size
 old:∀ b,b < B.w0.heap.size->w.heap[b]? = B.w0.heap[b]?
 fsize:B.wf.heap.size<=w.heap.size
 kept:∀ b,b < B.wf.heap.size->¬ B.own b->w.heap[b]? = B.wf.heap[b]?
 loc:∀ k cs ty,lh[k]? = some (.cells cs ty)->∃ b vs,m k=some b/\af m cs vs.toList/\w.heap[b]? = some (.cells vs ty (0,0))/\B.w0.heap.size<=b/\(B.wf.heap.size<=b ∨ B.own b)
 inj:∀ k k' b cs cs' ty ty',lh[k]? = some (.cells cs ty)->lh[k']? = some (.cells cs' ty')->m k=some b->m k'=some b->k=k'
 dom:∀ k,lh.length<=k->m k=none
 dead:∀ k,lh[k]? = some .dead->m k=none
 rng:∀ k b,m k=some b->b < w.heap.size
theorem aw.start (w:World):aw ⟨w,w,fun _=>False,[]⟩ (fun _=>none) [] w :=
 ⟨rfl,rfl,rfl,Nat.le_refl _,fun _ _=>rfl,Nat.le_refl _,fun _ _ _=>rfl,fun _ _ _ h=>by simp at h,fun _ _ _ _ _ _ _ h=>by simp at h,fun _ _=>rfl,fun _ _=>rfl,fun _ _ h=>by cases h⟩
theorem aw.drew {B:bm} {m:ao} {lh:List ac} {w:World} (h:aw B m lh w) (n:Nat):aw B m lh { w with drawn:=n } :=
 ⟨h.os,h.tape,h.output,h.size,h.old,h.fsize,h.kept,h.loc,h.inj,h.dom,h.dead,h.rng⟩
theorem aw.cell {B:bm} {m:ao} {lh:List ac} {w:World} (h:aw B m lh w) {k off:Nat} {cs:List ab} {ty:TypeId} {c:ab}
 (hk:lh[k]? = some (.cells cs ty)) (hc:cs[off]? = some c) {q:Option Addr} (hq:bN m (some (.l k off)) q) :
 ∃ b v,q=some ⟨b,off,none⟩/\m k=some b/\w.cell? ⟨b,off,none⟩=some v/\w.frozen? ⟨b,off,none⟩=false/\vrel m c v:=by
 obtain ⟨b,hb,rfl⟩:=hq
 obtain ⟨b',vs,hb',hvs,hh,_⟩:=h.loc k cs ty hk
 rw [hb] at hb'; cases hb'
 obtain ⟨v,hv,hr⟩:=cU off hvs hc
 refine ⟨b,v,rfl,hb,?_,?_,hr⟩
 ·simp only [World.cell?,hh]; simpa using hv
 ·simp [World.frozen?,hh]
theorem aw.cell_g {B:bm} {m:ao} {lh:List ac} {w:World} (h:aw B m lh w) {a:Addr} {v:Value} (hc:B.w0.cell? a=some v):w.cell? a=some v:=by
 have hb:a.block < B.w0.heap.size:=by
  apply Classical.byContradiction; intro hn
  simp [World.cell?,Array.getElem?_eq_none (Nat.le_of_not_lt hn)] at hc
 simp only [World.cell?,h.old _ hb]; exact hc
end Go.Sx
namespace Go.Sx
theorem run_bind {α β:Type} (P:Program):∀ (s:Sem α) (f:α->Sem β) (w:World),(s >>= f).run P w=match s.run P w with
 | .ok a w'=>(f a).run P w'
 | .halt h w'=>.halt h w':=by
 intro s f
 show ∀ w,(Sem.bind s f).run P w=_
 induction s with
 | pure a=>intro w; rfl
 | load m a k ih =>
   intro w; simp only [Sem.bind,Sem.run]
   split
   ·exact ih _ _
   ·split
    ·exact ih _ _
    ·rfl
 | store m a v k ih =>
   intro w
   cases v <;> simp only [Sem.bind,Sem.run] <;> first
    | rfl
    | (split
       ·split
        ·rfl
        ·exact ih _
       ·split
        ·exact ih _
        ·rfl)
 | new o k ih=>intro w; simp only [Sem.bind,Sem.run]; exact ih _ _
 | shape r k ih=>intro w; simp only [Sem.bind,Sem.run]; exact ih _ _
 | freeze a n k ih=>intro w; simp only [Sem.bind,Sem.run]; exact ih _
 | frozen a k ih=>intro w; simp only [Sem.bind,Sem.run]; exact ih _ _
 | getObj r k ih =>
   intro w; simp only [Sem.bind,Sem.run]
   split
   ·rfl
   ·exact ih _ _
   ·rfl
 | setObj r o k ih =>
   intro w; simp only [Sem.bind,Sem.run]
   split
   ·rfl
   ·exact ih _
   ·rfl
 | choose q k ih =>
   intro w; simp only [Sem.bind,Sem.run]
   split
   ·exact ih _ _
   ·exact ih _ _
 | sys c k ih=>intro w; simp only [Sem.bind,Sem.run]; exact ih _ _
 | program k ih=>intro w; simp only [Sem.bind,Sem.run]; exact ih _ _
 | mark m k ih=>intro w; simp only [Sem.bind,Sem.run]; exact ih _
 | halt h=>intro w; rfl
theorem aa {α β:Type} {P:Program} {s:Sem α} {f:α->Sem β} {w w':World} {a:α} (h:s.run P w=.ok a w'):(s >>= f).run P w=(f a).run P w':=by
 rw [run_bind,h]
theorem run_pure {α:Type} {P:Program} (a:α) (w:World):(pure a:Sem α).run P w=.ok a w:=rfl
theorem aw.put {B:bm} {m:ao} {lh lh':List ac} {w:World} (h:aw B m lh w) {p:Nat} {cs:List ab} {ty:TypeId} {vs:Array Value}
 (hp:m p=none) (hl:lh'[p]? = some (.cells cs ty)) (ho:∀ k,k ≠ p->lh'[k]? = lh[k]?) (hv:af m cs vs.toList) :
 aw B (fun k=>if k=p then some w.heap.size else m k) lh' { w with heap:=w.heap.push (.cells vs ty (0,0)) }/\m.le (fun k=>if k=p then some w.heap.size else m k):=by
 have hle:m.le (fun k=>if k=p then some w.heap.size else m k):=fun k b hk=>by
  have:k ≠ p:=fun e=>by rw [e,hp] at hk; cases hk
  simp [this,hk]
 refine ⟨⟨h.os,h.tape,h.output,by have:=h.size; simp; omega,fun b hb=>?_,by have:=h.fsize; simp; omega,fun b hb ho'=>?_,fun k cs' ty' hk=>?_,fun k k' b cs1 cs2 ty1 ty2 h1 h2 hb hb'=>?_,fun k hk=>?_,fun k hk=>?_,fun k b hk=>?_⟩,hle⟩
 ·have:=h.size
  rw [Array.getElem?_push,if_neg (by omega)]; exact h.old b hb
 ·have:=h.fsize
  rw [Array.getElem?_push,if_neg (by omega)]; exact h.kept b hb ho'
 ·by_cases e:k=p
  ·subst e
   rw [hl] at hk; cases hk
   exact ⟨w.heap.size,vs,by simp,bl hle _ _ hv,by simp,h.size,.inl h.fsize⟩
  ·rw [ho k e] at hk
   obtain ⟨b,us,hb,hus,hh,hbs⟩:=h.loc k cs' ty' hk
   refine ⟨b,us,by simp [e,hb],bl hle _ _ hus,?_,hbs⟩
   have:=h.rng k b hb
   show (w.heap.push _)[b]? = _
   rw [Array.getElem?_push,if_neg (by omega)]; exact hh
 ·by_cases e:k=p <;> by_cases e':k'=p
  ·rw [e,e']
  ·simp only [e,if_true] at hb; cases hb
   simp only [e',if_false] at hb'
   have:=h.rng k' _ hb'; omega
  ·simp only [e',if_true] at hb'; cases hb'
   simp only [e,if_false] at hb
   have:=h.rng k _ hb; omega
  ·simp only [e,e',if_false] at hb hb'
   rw [ho k e] at h1; rw [ho k' e'] at h2
   exact h.inj k k' b cs1 cs2 ty1 ty2 h1 h2 hb hb'
 ·have e:k ≠ p:=fun e=>by
   subst e; rw [List.getElem?_eq_none hk] at hl; cases hl
  simp only [e,if_false]
  apply h.dom
  have:=ho k e
  rw [List.getElem?_eq_none hk] at this
  exact List.getElem?_eq_none_iff.1 this.symm
 ·have e:k ≠ p:=fun e=>by subst e; rw [hl] at hk; cases hk
  simp only [e,if_false]
  exact h.dead k (by rw [← ho k e]; exact hk)
 ·by_cases e:k=p
  ·simp only [e,if_true] at hk; cases hk; simp
  ·simp only [e,if_false] at hk; have:=h.rng k b hk; simp; omega
theorem aw.push {B:bm} {m:ao} {lh:List ac} {w:World} (h:aw B m lh w) {cs:List ab} {ty:TypeId} {vs:Array Value} (hv:af m cs vs.toList) :
 aw B (fun k=>if k=lh.length then some w.heap.size else m k) (lh++[.cells cs ty]) { w with heap:=w.heap.push (.cells vs ty (0,0)) } /\
  m.le (fun k=>if k=lh.length then some w.heap.size else m k) :=
 h.put (h.dom _ (Nat.le_refl _)) (by simp) (fun k hk=>by
  rw [List.getElem?_append]; split
  ·rfl
  ·rename_i hn
   rw [List.getElem?_eq_none (by simp; omega),List.getElem?_eq_none (by omega)]) hv
theorem aw.junk {B:bm} {m:ao} {lh:List ac} {w:World} (h:aw B m lh w) (o:Obj):aw B m lh { w with heap:=w.heap.push o } :=
 ⟨h.os,h.tape,h.output,by have:=h.size; simp; omega,fun b hb=>by have:=h.size; rw [Array.getElem?_push,if_neg (by omega)]; exact h.old b hb,
  by have:=h.fsize; simp; omega,fun b hb ho=>by have:=h.fsize; rw [Array.getElem?_push,if_neg (by omega)]; exact h.kept b hb ho,
  fun k cs ty hk=>by
   obtain ⟨b,vs,hb,hvs,hh,hs⟩:=h.loc k cs ty hk
   have:=h.rng k b hb
   exact ⟨b,vs,hb,hvs,by rw [Array.getElem?_push,if_neg (by omega)]; exact hh,hs⟩,
  h.inj,h.dom,h.dead,fun k b hk=>by have:=h.rng k b hk; simp; omega⟩
theorem aw.set {B:bm} {m:ao} {lh:List ac} {w:World} (h:aw B m lh w) {k off:Nat} {cs:List ab} {ty:TypeId} {x:ab} {v:Value} {b:Nat}
 (hk:lh[k]? = some (.cells cs ty)) (hb:m k=some b) (hx:vrel m x v) :
 aw B m (lh.set k (.cells (cs.set off x) ty)) (w.setCell ⟨b,off,none⟩ v):=by
 obtain ⟨b',vs,hb',hvs,hh,hs,hs2⟩:=h.loc k cs ty hk
 rw [hb] at hb'; cases hb'
 have hkl:k < lh.length:=(List.getElem?_eq_some_iff.1 hk).1
 have hget:∀ j,(lh.set k (.cells (cs.set off x) ty))[j]? = if k=j then some (.cells (cs.set off x) ty) else lh[j]? := fun j=>by
  rw [List.getElem?_set]; split <;> simp_all
 have hheap:∀ i,(w.setCell ⟨b,off,none⟩ v).heap[i]? = if b=i then some (.cells (vs.setIfInBounds off v) ty (0,0)) else w.heap[i]? := fun i=>by
  simp only [World.setCell,Array.getElem?_modify]
  split
  ·rename_i e; subst e; simp [hh]
  ·rfl
 have hsz:(w.setCell ⟨b,off,none⟩ v).heap.size=w.heap.size:=by simp [World.setCell]
 refine ⟨h.os,h.tape,h.output,by rw [hsz]; exact h.size,fun i hi=>?_,by rw [hsz]; exact h.fsize,fun i hi ho=>?_,fun j cs' ty' hj=>?_,fun j j' i cs1 cs2 ty1 ty2 h1 h2 hi hi'=>?_,fun j hj=>?_,fun j hj=>?_,fun j i hj=>?_⟩
 ·rw [hheap,if_neg (by omega)]; exact h.old i hi
 ·rw [hheap,if_neg (fun e=>by subst e; rcases hs2 with h1 | h1; exact absurd hi (by omega); exact ho h1)]; exact h.kept i hi ho
 ·rw [hget] at hj
  split at hj
  ·rename_i e; subst e
   cases hj
   refine ⟨b,vs.setIfInBounds off v,hb,?_,by rw [hheap,if_pos rfl],hs,hs2⟩
   rw [Array.toList_setIfInBounds]; exact ej off hvs hx
  ·rename_i e
   obtain ⟨i,us,hi,hus,hhi,his⟩:=h.loc j cs' ty' hj
   refine ⟨i,us,hi,hus,?_,his⟩
   rw [hheap,if_neg (fun e'=>e (h.inj k j b cs cs' ty ty' hk hj hb (by rw [hi,e'])))]
   exact hhi
 ·have f:∀ {j:Nat} {c:List ab} {t:TypeId},(lh.set k (ac.cells (cs.set off x) ty))[j]? = some (ac.cells c t)->∃ c' t',lh[j]? = some (ac.cells c' t'):=fun {j c t} hj=>by
   rw [hget] at hj; split at hj
   ·rename_i e; subst e; exact ⟨_,_,hk⟩
   ·exact ⟨_,_,hj⟩
  obtain ⟨c1,t1,g1⟩:=f h1
  obtain ⟨c2,t2,g2⟩:=f h2
  exact h.inj j j' i c1 c2 t1 t2 g1 g2 hi hi'
 ·exact h.dom j (by simpa using hj)
 ·rw [hget] at hj; split at hj
  ·cases hj
  ·exact h.dead j hj
 ·rw [hsz]; exact h.rng j i hj
def wr:List ab->Nat->List ab->List ab
 | cs,_,[]=>cs
 | cs,off,x::xs=>wr (cs.set off x) (off+1) xs
theorem kl:∀ (xs cs:List ab) (off:Nat),(wr cs off xs).length=cs.length
 | [],_,_=>rfl
 | _::xs,cs,off=>by simp [wr,kl xs]
theorem iB (b off i:Nat):(⟨b,off,none⟩:Addr).add i=⟨b,off+i,none⟩:=by
 unfold Addr.add; split
 ·rename_i h; subst h; rfl
 ·rfl
theorem Bc {P:Program} {w:World} {a:Addr} {v:Value} {u:Value} (hv:iE v=true) (hc:w.cell? a=some u) (hf:w.frozen? a=false):(store a v).run P w=.ok () (w.setCell a v):=by
 cases v <;> simp_all [store,Sem.run,iE]
theorem aw.stores {B:bm} {m:ao} {P:Program} {k b off:Nat} {ty:TypeId} (hb:m k=some b):∀ (xs:List ab) (us:List Value) (cs:List ab) (lh:List ac) (w:World) (i:Nat),
 aw B m lh w->lh[k]? = some (.cells cs ty)->off+i+xs.length<=cs.length->af m xs us->(∀ u ∈ us,iE u=true) ->
 ∃ w',(storeCells ⟨b,off,none⟩ us i).run P w=.ok () w'/\aw B m (lh.set k (.cells (wr cs (off+i) xs) ty)) w':=by
 intro xs
 induction xs with
 | nil =>
   intro us cs lh w i h hk hl hr _
   simp only [af] at hr; subst hr
   refine ⟨w,by unfold storeCells; rfl,?_⟩
   have:lh.set k (.cells (wr cs (off+i) []) ty)=lh:=by
    apply List.ext_getElem?; intro j
    rw [List.getElem?_set]; split
    ·rename_i e; subst e
     obtain ⟨h1,h2⟩:=List.getElem?_eq_some_iff.1 hk
     simp [wr,h1,h2]
    ·rfl
   rw [this]; exact h
 | cons x xs ih =>
   intro us cs lh w i h hk hl hr h1
   simp only [af] at hr
   obtain ⟨u,us,rfl,hx,hr⟩:=hr
   have hlt:off+i < cs.length:=by simp at hl; omega
   obtain ⟨b',v,hq,hb',hc,hf,_⟩:=h.cell hk (List.getElem?_eq_getElem hlt) ⟨b,hb,rfl⟩
   rw [hb] at hb'; cases hb'
   have hs:=h.set (off:=off+i) hk hb hx
   have hkl:k < lh.length:=(List.getElem?_eq_some_iff.1 hk).1
   obtain ⟨w',hw',hrel⟩:=ih us (cs.set (off+i) x) (lh.set k (.cells (cs.set (off+i) x) ty)) (w.setCell ⟨b,off+i,none⟩ u) (i+1) hs (by simp [hkl]) (by simp at hl ⊢; omega) hr (fun u' hu'=>h1 u' (List.mem_cons_of_mem _ hu'))
   refine ⟨w',?_,?_⟩
   ·unfold storeCells
    rw [iB,aa (Bc (h1 u List.mem_cons_self) hc hf)]
    exact hw'
   ·rw [List.set_set] at hrel
    exact hrel
end Go.Sx
namespace Go.Sx
def aS:Value->ab
 | .int k n=>.int k n
 | .bool b=>.bool b
 | .string s=>.str s
 | .pointer none=>.ptr none
 | .pointer (some a)=>.ptr (some (.g a))
 | .slice none n c=>.slice none n c
 | .slice (some a) n c=>.slice (some (.g a)) n c
 | v=>.raw v
theorem bk (m:ao) (v:Value):vrel m (aS v) v:=by
 cases v with
 | pointer a=>cases a <;> simp [aS,vrel,bN]
 | slice a n c=>cases a <;> simp [aS,vrel,bN]
 | _=>simp [aS,vrel]
def Ptr.add:Ptr->Nat->Ptr
 | .l k off,n=>.l k (off+n)
 | .g a,n=>.g (a.add n)
theorem l8 {m:ao} {p:Ptr} {q:Option Addr} (h:bN m (some p) q) (n:Nat):∃ a,q=some a/\bN m (some (p.add n)) (some (a.add n)):=by
 cases p with
 | l k off=>obtain ⟨b,hb,rfl⟩:=h; exact ⟨_,rfl,b,hb,by rw [iB]⟩
 | g a=>simp only [bN] at h; subst h; exact ⟨a,rfl,rfl⟩
def dV (w0:World) (a:Addr):Nat->Nat->Option (List ab)
 | _,0=>some []
 | i,n+1=>match w0.cell? (a.add i),dV w0 a (i+1) n with
   | some v,some l=>some (aS v::l)
   | _,_=>none
def lds (w0:World) (lh:List ac):Ptr->Nat->Option (List ab)
 | .l k off,n=>match lh[k]? with
   | some (.cells cs _)=>if off+n<=cs.length then some ((cs.drop off).take n) else none
   | _=>none
 | .g a,n=>dV w0 a 0 n
def ld (w0:World) (lh:List ac):Ptr->Option ab
 | .l k off=>match lh[k]? with
   | some (.cells cs _)=>cs[off]?
   | _=>none
 | .g a=>(w0.cell? a).map aS
theorem xl {B:bm} {m:ao} {lh:List ac} {w:World} (h:aw B m lh w) {p:Ptr} {q:Option Addr} (hq:bN m (some p) q) {x:ab} (hx:ld B.w0 lh p=some x) :
 ∃ a v,q=some a/\w.cell? a=some v/\vrel m x v:=by
 cases p with
 | l k off =>
   simp only [ld] at hx
   split at hx
   ·rename_i cs ty hk
    obtain ⟨b,v,h1,_,h3,_,h5⟩:=h.cell hk hx hq
    exact ⟨_,v,h1,h3,h5⟩
   ·cases hx
 | g a =>
   simp only [bN] at hq; subst hq
   simp only [ld,Option.map_eq_some_iff] at hx
   obtain ⟨v,hv,rfl⟩:=hx
   exact ⟨a,v,rfl,h.cell_g hv,bk m v⟩
theorem qX {P:Program} {w:World} {a:Addr} {v:Value} (h:w.cell? a=some v):(load a).run P w=.ok v w:=by
 simp [load,Sem.run,h]
theorem iP {P:Program} {w:World} {a:Addr}:∀ (vs:List Value) (i:Nat) (acc:Array Value),(∀ j v,vs[j]? = some v->w.cell? (a.add (i+j))=some v) ->
 (loadCellsFrom a i vs.length acc).run P w=.ok (acc++vs.toArray) w
 | [],i,acc,_=>by simp [loadCellsFrom]
 | v::vs,i,acc,h=>by
   simp only [List.length_cons,loadCellsFrom]
   have h0:w.cell? (a.add i)=some v:=by simpa using h 0 v rfl
   rw [aa (qX h0),iP vs (i+1) (acc.push v) (fun j u hu=>by have:=h (j+1) u (by simpa using hu); rw [← this]; congr 2; omega)]
   simp
theorem cK {w0:World} {a:Addr}:∀ (n i:Nat) (xs:List ab),dV w0 a i n=some xs->∃ vs:List Value,xs=vs.map aS/\vs.length=n/\∀ j v,vs[j]? = some v->w0.cell? (a.add (i+j))=some v
 | 0,i,xs,h=>by simp only [dV,Option.some.injEq] at h; subst h; exact ⟨[],rfl,rfl,fun j v hv=>by simp at hv⟩
 | n+1,i,xs,h=>by
   simp only [dV] at h
   split at h
   ·rename_i v l hv hl
    cases h
    obtain ⟨vs,rfl,h2,h3⟩:=cK n (i+1) l hl
    refine ⟨v::vs,rfl,by simp [h2],fun j u hu=>?_⟩
    cases j with
    | zero=>simp at hu; subst hu; exact hv
    | succ j=>have:=h3 j u (by simpa using hu); rw [← this]; congr 2; omega
   ·cases h
theorem bd (m:ao):∀ vs:List Value,af m (vs.map aS) vs
 | []=>by simp [af]
 | v::vs=>by simp only [List.map_cons,af]; exact ⟨_,_,rfl,bk m v,bd m vs⟩
theorem nL {B:bm} {m:ao} {lh:List ac} {w:World} {P:Program} (h:aw B m lh w) {p:Ptr} {q:Option Addr} (hq:bN m (some p) q) {n:Nat} {xs:List ab} (hx:lds B.w0 lh p n=some xs) :
 ∃ a vs,q=some a/\(loadCells a n).run P w=.ok vs w/\af m xs vs.toList:=by
 cases p with
 | l k off =>
   simp only [lds] at hx
   split at hx
   ·rename_i cs ty hk
    split at hx
    ·rename_i hle
     cases hx
     obtain ⟨b,hb,rfl⟩:=hq
     obtain ⟨b',vs,hb',hvs,hh,_⟩:=h.loc k cs ty hk
     rw [hb] at hb'; cases hb'
     have hl:=bo hvs
     have hr:=gA n (iX off hvs)
     have hn:((vs.toList.drop off).take n).length=n:=by simp at hl ⊢; omega
     refine ⟨_,((vs.toList.drop off).take n).toArray,rfl,?_,by simpa using hr⟩
     have:=iP (P:=P) (w:=w) (a:=⟨b,off,none⟩) ((vs.toList.drop off).take n) 0 #[] (fun j v hv=>by
      rw [iB]
      rw [List.getElem?_take] at hv
      split at hv
      ·rw [List.getElem?_drop] at hv
       simp only [World.cell?,hh]; simpa using hv
      ·cases hv)
     rw [hn] at this
     simpa [loadCells] using this
    ·cases hx
   ·cases hx
 | g a =>
   simp only [bN] at hq; subst hq
   obtain ⟨vs,rfl,h2,h3⟩:=cK n 0 xs hx
   refine ⟨a,vs.toArray,rfl,?_,by simpa using bd m vs⟩
   have:=iP (P:=P) (w:=w) (a:=a) vs 0 #[] (fun j v hv=>h.cell_g (h3 j v hv))
   rw [h2] at this
   simpa [loadCells] using this
inductive Arg where
 | t (i:Nat)
 | k (v:ab)
def arg (sl:List ab):Arg->ab
 | .t i=>sl.getD i .any
 | .k v=>v
def aD:Operand->Arg
 | .tmp t=>.t t
 | .const v=>.k (aS v)
 | .global g=>.k (.ptr (some (.g ⟨g,0,none⟩)))
 | .func f=>.k (.fn (.func f) [] [])
theorem au {m:ao} {sl:List ab} {a:Act} (h:af m sl a.tmps.toList) (x:Operand):vrel m (arg sl (aD x)) (a.eval x):=by
 cases x with
 | tmp t =>
   simp only [aD,arg,Act.eval]
   have:=iW h t undef
   simpa using this
 | const v=>exact bk m v
 | global g=>simp [aD,arg,Act.eval,vrel,bN]
 | func f=>simp [aD,arg,Act.eval,vrel,af]
theorem d8 {m:ao} {sl:List ab} {a:Act} (h:af m sl a.tmps.toList):∀ xs:List Operand,af m ((xs.map aD).map (arg sl)) (xs.map a.eval)
 | []=>by simp [af]
 | x::xs=>by simp only [List.map_cons,af]; exact ⟨_,_,rfl,au h x,d8 h xs⟩
abbrev bf:=World->List ab->List ac->(ab->List ac->Prop)->Prop
def Ext (lh:List ac) (m:ao) (lh':List ac) (m':ao):Prop:=m.le m'/\∀ k,lh[k]? = some .hid->lh'[k]? = some .hid/\m' k=m k
theorem Ext.refl (lh:List ac) (m:ao):Ext lh m lh m:=⟨ao.le_refl m,fun _ h=>⟨h,rfl⟩⟩
theorem Ext.trans {l1 l2 l3:List ac} {m1 m2 m3:ao} (h:Ext l1 m1 l2 m2) (k:Ext l2 m2 l3 m3):Ext l1 m1 l3 m3 :=
 ⟨ao.le_trans h.1 k.1,fun j hj=>⟨(k.2 j (h.2 j hj).1).1,((k.2 j (h.2 j hj).1).2).trans (h.2 j hj).2⟩⟩
def HS (P : Program) (f : FuncId) : Prop := ∃ fn, P.funcs[f]? = some fn /\ (fn.name == "runtime.NumGoroutine") = false /\ fn.body.isNone = false
def bf.Sound (P:Program) (f:FuncId) (S:bf):Prop :=
 ∀ (B:bm) (m:ao) (lh:List ac) (w:World) (args:List ab) (vs:List Value) (K:ab->List ac->Prop),aw B m lh w->af m args vs->S B.w0 args lh K ->
  HS P f/\Calls P f vs.toArray w fun e w'=>∃ v r m' lh',e=.returned v/\vrel m' r v/\Ext lh m lh' m'/\aw B m' lh' w'/\K r lh'
def bX:List ab->List ab->Option Bool
 | [],[]=>some true
 | .int k a::xs,.int k' b::ys=>if k=k' then (bX xs ys).map (a == b && ·) else none
 | _,_=>none
def cm (P:Program) (t:TypeId):Prop:=P.eqGuardType P.depth t=false/\∀ (n:Nat),(P.info? t).map (·.size)=some n->∀ (xs ys:List ab) (us vs:Array Value) (m:ao) (b:Bool) (w:World),xs.length=n->af m xs us.toList->af m ys vs.toList->bX xs ys=some b ->
 (Op.equal t (.agg us) (.agg vs)).run P w=.ok b w
inductive IOp where
 | mov (x:Arg)
 | pick (c a b:Arg)
 | new (ty:TypeId) (zero:List ab)
 | box (ty:TypeId) (x:Arg)
 | agg (zero:List ab) (parts:List (Nat × Nat × Arg))
 | bsl (ty:TypeId) (len:Nat) (zero:List ab) (parts:List (Nat × Nat × Arg))
 | ld (a:Arg)
 | lds (n:Nat) (a:Arg)
 | st (n:Nat) (a x:Arg)
 | nz (x:Arg)
 | bin (op:BinOp) (x y:Arg)
 | eqa (neg:Bool) (n:Nat) (x y:Arg)
 | eqb (neg:Bool) (x y:Arg)
 | un (op:UnOp) (x:Arg)
 | conv (k:IntKind) (x:Arg)
 | mkf (fn:Fn) (first caps:List Arg)
 | fa (off:Nat) (x:Arg)
 | fld (off:Nat) (n:Option Nat) (x:Arg)
 | iaA (len esz:Nat) (x ix:Arg)
 | iaS (esz:Nat) (x ix:Arg)
 | ixA (len esz:Nat) (n:Option Nat) (x ix:Arg)
 | ixS (x ix:Arg)
 | len (x:Arg)
 | lenT (x:Arg)
 | lenA (n:Nat)
 | mm (isMax:Bool) (x:Arg) (xs:List Arg)
 | ext (x:Arg) (i:Nat)
 | slS (esz:Nat) (x:Arg) (lo hi mx:Option Arg)
 | slA (n esz:Nat) (x:Arg) (lo hi mx:Option Arg)
 | slT (x:Arg) (lo hi:Option Arg)
 | app (ty:TypeId) (esz bytes:Nat) (zero:List ab) (s x:Arg)
 | mks (ty:TypeId) (n:Nat) (cells:List ab)
 | call (f:FuncId) (args:List Arg)
 | callv (x:Arg) (args:List Arg)
 | isn (neg:Bool) (x:Arg)
 | clr (esz:Nat) (z:List ab) (x:Arg)
end Go.Sx
namespace Go.Sx
def place (pl:Option Nat) (lh:List ac) (o:ac) (K:Nat->List ac->Prop):Prop :=
 match pl with
 | none=>K lh.length (lh++[o])
 | some p=>lh[p]? = some .dead/\K p (lh.set p o)
def parts (sl:List ab):List (Nat × Nat × Arg)->List ab->(List ab->Prop)->Prop
 | [],z,K=>K z
 | (off,n,x)::ps,z,K=>(arg sl x).flat=true/\(arg sl x).cells.length=n/\off+n<=z.length/\parts sl ps (wr z off (arg sl x).cells) K
def ow (op:BinOp) (k:IntKind) (a b:Int) (K:ab->Prop):Prop :=
 match op with
 | .add=>K (.int k (k.wrap (a+b)))
 | .sub=>K (.int k (k.wrap (a - b)))
 | .mul=>K (.int k (k.wrap (a * b)))
 | .quo=>b ≠ 0/\K (.int k (k.wrap (a.tdiv b)))
 | .rem=>b ≠ 0/\K (.int k (a.tmod b))
 | .eql=>K (.bool (a == b))
 | .neq=>K (.bool (a != b))
 | .lss=>K (.bool (decide (a < b)))
 | .leq=>K (.bool (decide (a<=b)))
 | .gtr=>K (.bool (decide (b < a)))
 | .geq=>K (.bool (decide (b<=a)))
 | .and=>K (.int k (bits .and k a b))
 | .or=>K (.int k (bits .or k a b))
 | .xor=>K (.int k (bits .xor k a b))
 | .shl=>0<=b/\K (.int k (k.wrap (a * 2 ^ min b.toNat k.bits)))
 | .shr=>0<=b/\K (.int k (a.fdiv (2 ^ min b.toNat k.bits)))
 | _=>False
def uh (op:BinOp) (a b:ByteArray) (K:ab->Prop):Prop :=
 match op with
 | .eql=>K (.bool (a.toList == b.toList))
 | .neq=>K (.bool !(a.toList == b.toList))
 | .add=>((a.size+b.size:Nat):Int)<=IntKind.i64.max/\K (.str (a++b))
 | _=>False
def Ce (op:BinOp) (x y:ab) (K:ab->Prop):Prop :=
 match x,y with
 | .int k a,.int k' b=>k=k'/\ow op k a b K
 | .str a,.str b=>uh op a b K
 | _,_=>False
def bnd (x:Option ab) (y d:Nat) (K:Nat->Prop):Prop :=
 match x with
 | none=>K d
 | some (.int _ i)=>0<=i/\i<=y/\K i.toNat
 | _=>False
def mm2 (isMax:Bool):ab->List ab->(ab->Prop)->Prop
 | x,[],K=>K x
 | .int k a,.int k' b::xs,K=>k=k'/\mm2 isMax (.int k (if isMax then max a b else min a b)) xs K
 | _,_,_=>False
def cellsOf (w0:World) (lh:List ac) (p:Option Ptr) (n:Nat):Option (List ab) :=
 match p with
 | none=>some []
 | some p=>lds w0 lh p n
def mV (w0:World) (lh:List ac) (pl:Option Nat) (ty:TypeId) (esz bytes:Nat) (zero:List ab) (K:ab->List ac->Prop):ab->ab->Prop
 | .slice p n c,.slice q k _ =>
   ∃ new, cellsOf w0 lh q (k * esz)=some new /\
    (n + k<=c->match p with
      | some (.l b off)=>∃ cs t,lh[b]? = some (.cells cs t)/\new.all ab.one=true/\off+n * esz+new.length<=cs.length /\
         K (.slice (some (.l b off)) (n+k) c) (lh.set b (.cells (wr cs (off+n * esz) new) t))
      | none=>K (.slice none (n+k) c) lh
      | some (.g a)=>new=[]/\K (.slice (some (.g a)) (n+k) c) lh) /\
    (c < n+k->∃ old,cellsOf w0 lh p (n * esz)=some old/\Builtin.nextslicecap (n+k) c * bytes<=2 ^ 48/\(((n+k:Nat):Int)<=IntKind.i64.max ∨ bytes ≠ 0) /\
      ∀ c',n+k<=c'->place pl lh (.cells (old++new++(List.replicate (c' - (n+k)) zero).flatten) ty) fun b lh'=>K (.slice (some (.l b 0)) (n+k) c') lh')
 | _,_=>False
def vcI (w0:World) (S:FuncId->bf) (sl:List ab) (lh:List ac) (pl:Option Nat) (K:ab->List ac->Prop):IOp->Prop
 | .mov x=>K (arg sl x) lh
 | .pick c a b=>match arg sl c with
   | .bool t=>(t=true->K (arg sl a) lh)/\(t=false->K (arg sl b) lh)
   | _=>False
 | .new ty z=>place pl lh (.cells z ty) fun p lh'=>K (.ptr (some (.l p 0))) lh'
 | .box ty x=>(arg sl x).flat=true/\place pl lh (.cells (arg sl x).cells ty) fun p lh'=>K (.ptr (some (.l p 0))) lh'
 | .agg z ps=>parts sl ps z fun cs=>K (.agg cs) lh
 | .bsl ty n z ps=>parts sl ps z fun cs=>place pl lh (.cells cs ty) fun p lh'=>K (.slice (some (.l p 0)) n n) lh'
 | .ld a=>match arg sl a with
   | .ptr (some p)=>∃ v,ld w0 lh p=some v/\K v lh
   | _=>False
 | .lds n a=>match arg sl a with
   | .ptr (some p)=>∃ cs,lds w0 lh p n=some cs/\K (.agg cs) lh
   | _=>False
 | .st n a x=>match arg sl a with
   | .ptr (some (.l k off))=>∃ cs ty,lh[k]? = some (.cells cs ty)/\(arg sl x).flat=true/\(arg sl x).cells.length=n/\off+n<=cs.length /\
      K (.tup []) (lh.set k (.cells (wr cs off (arg sl x).cells) ty))
   | _=>False
 | .nz x=>match arg sl x with
   | .ptr (some p)=>K (.ptr (some p)) lh
   | .fn (.func f) a b=>K (.fn (.func f) a b) lh
   | _=>False
 | .bin op x y=>Ce op (arg sl x) (arg sl y) fun v=>K v lh
 | .eqa neg n x y=>match arg sl x,arg sl y with
   | .agg xs,.agg ys=>xs.length=n/\∃ b,bX xs ys=some b/\K (.bool (if neg then !b else b)) lh
   | _,_=>False
 | .eqb neg x y=>match arg sl x,arg sl y with
   | .bool a,.bool b=>K (.bool (if neg then !(a == b) else a == b)) lh
   | _,_=>False
 | .un op x=>match op,arg sl x with
   | .neg,.int k n=>K (.int k (k.wrap (0 - n))) lh
   | .not,.bool b=>K (.bool !b) lh
   | _,_=>False
 | .conv k x=>match arg sl x with
   | .int _ n=>K (.int k (k.wrap n)) lh
   | _=>False
 | .mkf f xs ys=>K (.fn f (xs.map (arg sl)) (ys.map (arg sl))) lh
 | .fa off x=>match arg sl x with
   | .ptr (some p)=>K (.ptr (some (p.add off))) lh
   | _=>False
 | .fld off n x=>match arg sl x with
   | .agg cs=>match n with
     | some n=>K (.agg ((cs.drop off).take n)) lh
     | none=>∃ v,cs[off]? = some v/\K v lh
   | _=>False
 | .iaA n esz x ix=>match arg sl x,arg sl ix with
   | .ptr (some p),.int _ i=>0<=i/\i < n/\K (.ptr (some (p.add (i.toNat * esz)))) lh
   | _,_=>False
 | .iaS esz x ix=>match arg sl x,arg sl ix with
   | .slice p n _,.int _ i=>0<=i/\i < n/\∃ q,p=some q/\K (.ptr (some (q.add (i.toNat * esz)))) lh
   | _,_=>False
 | .ixA n esz sz x ix=>match arg sl x,arg sl ix with
   | .agg cs,.int _ i=>0<=i/\i < n/\match sz with
     | some sz=>K (.agg ((cs.drop (i.toNat * esz)).take sz)) lh
     | none=>∃ v,cs[i.toNat * esz]? = some v/\K v lh
   | _,_=>False
 | .ixS x ix=>match arg sl x,arg sl ix with
   | .str s,.int _ i=>0<=i/\i < s.size/\K (.int .u8 ((s.data.toList.getD i.toNat 0).toNat:Int)) lh
   | _,_=>False
 | .len x=>match arg sl x with
   | .slice _ n _=>K (.int .i64 n) lh
   | _=>False
 | .lenT x=>match arg sl x with
   | .str s=>K (.int .i64 s.size) lh
   | _=>False
 | .lenA n=>K (.int .i64 n) lh
 | .mm b x xs=>mm2 b (arg sl x) (xs.map (arg sl)) fun v=>K v lh
 | .ext x i=>match arg sl x with
   | .tup vs=>∃ v,vs[i]? = some v/\K v lh
   | _=>False
 | .slS esz x lo hi mx=>match arg sl x with
   | .slice p n c=>bnd (mx.map (arg sl)) c c fun m=>bnd (hi.map (arg sl)) m n fun h=>bnd (lo.map (arg sl)) h 0 fun l =>
      K (.slice (if m=l then p else p.map (Ptr.add · (l * esz))) (h - l) (m - l)) lh
   | _=>False
 | .slA n esz x lo hi mx=>match arg sl x with
   | .ptr (some p)=>bnd (mx.map (arg sl)) n n fun m=>bnd (hi.map (arg sl)) m n fun h=>bnd (lo.map (arg sl)) h 0 fun l =>
      K (.slice (some (if m=l then p else p.add (l * esz))) (h - l) (m - l)) lh
   | _=>False
 | .slT x lo hi=>match arg sl x with
   | .str s=>bnd (hi.map (arg sl)) s.size s.size fun h=>bnd (lo.map (arg sl)) h 0 fun l=>K (.str (s.extract l h)) lh
   | _=>False
 | .app ty esz bytes zero s x=>mV w0 lh pl ty esz bytes zero K (arg sl s) (arg sl x)
 | .mks ty n cs=>place pl lh (.cells cs ty) fun p lh'=>K (.slice (some (.l p 0)) n n) lh'
 | .call f xs=>S f w0 (xs.map (arg sl)) lh K
 | .callv x xs=>match arg sl x with
   | .fn (.func f) a b=>S f w0 (a++xs.map (arg sl)++b) lh K
   | _=>False
 | .isn neg x=>match arg sl x with
   | .slice p _ _=>K (.bool (if neg then !p.isNone else p.isNone)) lh
   | _=>False
 | .clr esz z x=>match arg sl x with
   | .slice (some (.l k off)) n _=>∃ cs ty,lh[k]? = some (.cells cs ty)/\n ≠ 0/\off+n * esz<=cs.length/\K (.tup []) (lh.set k (.cells (wr cs off (List.replicate n z).flatten) ty))
   | .slice _ n _=>n=0/\K (.tup []) lh
   | _=>False
def bE (P:Program) (o:Oper) (a:Act) (w:World) (R:Value->World->Prop):Prop :=
 (∃ v w',(execOp a.eval o).run P w=.ok (.value v) w'/\R v w') ∨
 (∃ w',(execOp a.eval o).run P w=.ok .skip w'/\R undef w') ∨
 (∃ f args,(execOp a.eval o).run P w=.ok (.enter f args) w/\Calls P f args w fun e w'=>∃ v,e=.returned v/\R v w')
theorem aB {P:Program} {o:Oper} {a:Act} {w w':World} {R:Value->World->Prop} {s:Sem Value} {v:Value}
 (he:execOp a.eval o=(do pure (.value (← s)))) (hs:s.run P w=.ok v w') (hR:R v w'):bE P o a w R :=
 .inl ⟨v,w',by rw [he,aa hs]; rfl,hR⟩
theorem yF {P:Program} {o:Oper} {a:Act} {w w':World} {R:Value->World->Prop} {s:Sem Unit}
 (he:execOp a.eval o=(do s; pure .skip)) (hs:s.run P w=.ok () w') (hR:R undef w'):bE P o a w R :=
 .inr (.inl ⟨w',by rw [he,aa hs]; rfl,hR⟩)
def Post (B:bm) (m:ao) (lh:List ac) (K:ab->List ac->Prop) (v:Value) (w:World):Prop :=
 ∃ r m' lh',vrel m' r v/\Ext lh m lh' m'/\aw B m' lh' w/\K r lh'
theorem Post.same {B:bm} {m:ao} {lh:List ac} {w:World} {K:ab->List ac->Prop} {v:Value} {r:ab} (h:aw B m lh w) (hr:vrel m r v) (hK:K r lh):Post B m lh K v w :=
 ⟨r,m,lh,hr,Ext.refl lh m,h,hK⟩
theorem FC {lh:List ac} {m:ao} {k:Nat} {o o':ac} (hk:lh[k]? = some o) (ho:o ≠ .hid):Ext lh m (lh.set k o') m :=
 ⟨ao.le_refl m,fun j hj=>⟨by rw [List.getElem?_set,if_neg (fun e=>by subst e; rw [hk] at hj; cases hj; exact ho rfl)]; exact hj,rfl⟩⟩
theorem Post.store {B:bm} {m:ao} {lh:List ac} {w:World} {K:ab->List ac->Prop} {v:Value} {r:ab} {k:Nat} {cs:List ab} {ty:TypeId} {o':ac} (hk:lh[k]? = some (.cells cs ty)) (h:aw B m (lh.set k o') w)
 (hr:vrel m r v) (hK:K r (lh.set k o')):Post B m lh K v w :=
 ⟨r,m,_,hr,FC hk (by simp),h,hK⟩
theorem eh {B:bm} {m:ao} {lh:List ac} {w:World} {pl:Option Nat} {cs:List ab} {ty:TypeId} {vs:Array Value} {K:Nat->List ac->Prop}
 (h:aw B m lh w) (hv:af m cs vs.toList) (hp:place pl lh (.cells cs ty) K) :
 ∃ p m' lh',m' p=some w.heap.size/\Ext lh m lh' m'/\aw B m' lh' { w with heap:=w.heap.push (.cells vs ty (0,0)) }/\K p lh':=by
 cases pl with
 | none =>
   obtain ⟨h1,h2⟩:=h.push (ty:=ty) hv
   refine ⟨_,_,_,by simp,⟨h2,fun k hk=>?_⟩,h1,hp⟩
   have hlt:k < lh.length:=(List.getElem?_eq_some_iff.1 hk).1
   exact ⟨by rw [List.getElem?_append_left hlt]; exact hk,by simp [Nat.ne_of_lt hlt]⟩
 | some p =>
   obtain ⟨hd,hK⟩:=hp
   obtain ⟨h1,h2⟩:=h.put (p:=p) (lh':=lh.set p (.cells cs ty)) (ty:=ty) (h.dead p hd) (by simp [(List.getElem?_eq_some_iff.1 hd).1]) (fun k hk=>by simp [hk.symm]) hv
   refine ⟨_,_,_,by simp,⟨h2,fun k hk=>?_⟩,h1,hK⟩
   have hne:k ≠ p:=fun e=>by subst e; rw [hd] at hk; cases hk
   exact ⟨by rw [List.getElem?_set,if_neg hne.symm]; exact hk,by simp [hne]⟩
end Go.Sx
namespace Go.Sx
def re:TypeDesc->Bool
 | .struct _ | .array _ _=>true
 | _=>false
def kD (P:Program) (t:TypeId):Option (Option Nat) :=
 match P.underlying t,P.info? t with
 | some d,some i=>some (if re d then some i.size else none)
 | _,_=>none
def nE (P:Program) (t:TypeId):Option (Array Value):=((P.info? t).bind (·.zero)).map (·.cells)
def cv (P:Program) (t:TypeId):Option Nat:=(P.info? t).map (·.size)
def pb (P:Program) (fs:Array Field):Option (List (Nat × Nat)):=fs.toList.mapM fun f=>(cv P f.type).map fun n=>(f.offset,n)
def jH (pls:Nat->Option (Nat × Nat)):List (Nat × Operand)->Option (List (Nat × Nat × Arg))
 | []=>some []
 | (i,x)::ps=>match pls i,jH pls ps with
   | some (off,n),some l=>some ((off,n,aD x)::l)
   | _,_=>none
def pz:Operand->Bool
 | .const (.slice none 0 0)=>true
 | _=>false
def oU (P:Program) (b:Builtin) (ts:Array TypeId) (xs:List Operand):Option IOp :=
 match b,ts.toList,xs with
 | .len,[t],[x]=>match P.underlying t with
   | some (.slice _)=>some (.len (aD x))
   | some .string=>some (.lenT (aD x))
   | some (.array n _)=>some (.lenA n)
   | _=>none
 | .max,_,x::y::xs=>some (.mm true (aD x) ((y::xs).map aD))
 | .min,_,x::y::xs=>some (.mm false (aD x) ((y::xs).map aD))
 | .append,[t,u],[s,x]=>match P.underlying t,P.underlying u with
   | some (.slice e),some (.slice _)=>match P.info? e with
     | some i=>match i.zero with
       | some z=>if z.cells.size=i.size && z.cells.size != 0 then some (.app e i.size i.bytes (z.cells.toList.map aS) (aD s) (aD x)) else none
       | none=>none
     | none=>none
   | _,_=>none
 | .clear,[t],[x]=>match P.underlying t with
   | some (.slice e)=>match P.info? e with
     | some i=>match i.zero with
       | some z=>if z.cells.size=i.size && z.cells.toList.all iE then some (.clr i.size (z.cells.toList.map aS) (aD x)) else none
       | none=>none
     | none=>none
   | _=>none
 | _,_,_=>none
def Aa (P:Program) (t:TypeId) (x y:Operand):Option IOp :=
 match x,y,P.underlying t with
 | .const (.int _ n),.const (.int _ c),some (.slice e)=>match P.info? e with
   | some i=>match i.zero with
     | some z=>if n=c && 0 < n && n<=1000 && (i.bytes:Int) * n<=2 ^ 40 && i.size != 0 then
        some (.mks e n.toNat (((List.range (n.toNat * i.size)).map (z.cells[· % z.cells.size]!)).map aS)) else none
     | none=>none
   | none=>none
 | _,_,_=>none
def dU (P:Program) (eqs:List TypeId) (o:Oper):Option IOp :=
 match o.op with
 | .move x=>some (.mov (aD x))
 | .assign x=>some (.mov (aD x))
 | .pick c a b=>some (.pick (aD c) (aD a) (aD b))
 | .alloc t=>(nE P t).map fun z=>.new t (z.toList.map aS)
 | .box t x=>some (.box t (aD x))
 | .build t ps=>match P.underlying t,nE P t with
   | some (.struct fs),some z=>match pb P fs with
     | some pls=>(jH (pls[·]?) ps.toList).map (.agg (z.toList.map aS))
     | none=>none
   | some (.array _ e),some z=>match cv P e with
     | some n=>(jH (fun i=>some (i * n,n)) ps.toList).map (.agg (z.toList.map aS))
     | none=>none
   | _,_=>none
 | .buildSlice t len ps=>match P.underlying t with
   | some (.slice e)=>match cv P e,nE P e with
     | some n,some z=>if len * n<=2 ^ 24 && (len * n != 0 || z.size == 0) then
        (jH (fun i=>some (i * n,n)) ps.toList).map (.bsl e len (((List.range (len * n)).map (z[· % z.size]!)).map aS)) else if len * n=0 then (jH (fun i=>some (i * n,n)) ps.toList).map (.bsl e len []) else none
     | _,_=>none
   | _=>none
 | .load t a=>match kD P t with
   | some (some n)=>some (.lds n (aD a))
   | some none=>some (.ld (aD a))
   | none=>none
 | .store t a x=>(cv P t).map fun n=>.st n (aD a) (aD x)
 | .nilCheck x=>some (.nz (aD x))
 | .binOp op t x y _=>match op,P.underlying t with
   | .eql,some .bool=>some (.eqb false (aD x) (aD y))
   | .neq,some .bool=>some (.eqb true (aD x) (aD y))
   | .eql,some (.struct _) | .eql,some (.array _ _)=>if eqs.contains t then (cv P t).map fun n=>.eqa false n (aD x) (aD y) else none
   | .neq,some (.struct _) | .neq,some (.array _ _)=>if eqs.contains t then (cv P t).map fun n=>.eqa true n (aD x) (aD y) else none
   | op,some (.int _) | op,some .string=>some (.bin op (aD x) (aD y))
   | .eql,some (.slice _)=>if pz y then some (.isn false (aD x)) else none
   | .neq,some (.slice _)=>if pz y then some (.isn true (aD x)) else none
   | _,_=>none
 | .unOp op _ x=>some (.un op (aD x))
 | .convert s d x=>match P.underlying s,P.underlying d with
   | some _,some (.int k)=>some (.conv k (aD x))
   | _,_=>none
 | .makeFunc f xs ys=>some (.mkf f (xs.toList.map aD) (ys.toList.map aD))
 | .fieldAddr t x i=>match P.underlying t with
   | some (.struct fs)=>match fs[i]? with
     | some f=>match cv P f.type with
       | some n=>if n=0 then none else some (.fa f.offset (aD x))
       | none=>none
     | none=>none
   | _=>none
 | .field t x i=>match P.underlying t with
   | some (.struct fs)=>match fs[i]? with
     | some f=>(kD P f.type).map fun n=>.fld f.offset n (aD x)
     | none=>none
   | _=>none
 | .indexAddr t x ix=>match P.underlying t with
   | some (.array n e)=>(cv P e).map fun s=>.iaA n s (aD x) (aD ix)
   | some (.slice e)=>(cv P e).map fun s=>.iaS s (aD x) (aD ix)
   | _=>none
 | .index t x ix=>match P.underlying t with
   | some (.array n e)=>match cv P e,kD P e with
     | some s,some a=>some (.ixA n s a (aD x) (aD ix))
     | _,_=>none
   | some .string=>some (.ixS (aD x) (aD ix))
   | _=>none
 | .extract x i=>some (.ext (aD x) i)
 | .slice t x lo hi mx=>if mx.isSome && !hi.isSome then none else match P.underlying t with
   | some (.slice e)=>(cv P e).map fun s=>.slS s (aD x) (lo.map aD) (hi.map aD) (mx.map aD)
   | some (.array n e)=>(cv P e).map fun s=>.slA n s (aD x) (lo.map aD) (hi.map aD) (mx.map aD)
   | some .string=>if mx.isSome then none else some (.slT (aD x) (lo.map aD) (hi.map aD))
   | _=>none
 | .makeSlice t x y=>Aa P t x y
 | .call c=>match c.callee with
   | .value (.func f)=>match P.funcs[f]? with
     | some fn => if fn.name == "runtime.NumGoroutine" || fn.body.isNone then none else some (.call f (c.args.toList.map aD))
     | none=>none
   | .value x=>some (.callv (aD x) (c.args.toList.map aD))
   | .builtin b=>oU P b c.argTypes c.args.toList
   | _=>none
 | _=>none
section
variable {P:Program} {B:bm} {S:FuncId->bf} {m:ao} {sl:List ab} {lh:List ac} {w:World} {a:Act} {o:Oper} {pl:Option Nat} {K:ab->List ac->Prop}
theorem am {t:TypeId} {d:TypeDesc} (h:P.underlying t=some d) (w:World):(underlying t).run P w=.ok d w:=by
 unfold underlying; rw [aa (a:=P) (w':=w) rfl]; simp only [h]; rfl
theorem cj {t:TypeId} {i:TypeInfo} (h:P.info? t=some i) (w:World):(typeInfo t).run P w=.ok i w:=by
 unfold typeInfo; rw [aa (a:=P) (w':=w) rfl]
 have h':P.toTables.info? t=some i:=h
 simp only [h']; rfl
theorem bu {t:TypeId} {n:Nat} (h:cv P t=some n) (w:World):(sizeOf t).run P w=.ok n w:=by
 simp only [cv,Option.map_eq_some_iff] at h
 obtain ⟨i,hi,rfl⟩:=h
 unfold sizeOf; rw [aa (cj hi w)]; rfl
theorem eO {t:TypeId} {z:Array Value} (h:nE P t=some z) (w:World):∃ v,v.cells=z/\(zeroValue t).run P w=.ok v w:=by
 simp only [nE,Option.map_eq_some_iff,Option.bind_eq_some_iff] at h
 obtain ⟨v,⟨i,hi,hv⟩,rfl⟩:=h
 refine ⟨v,rfl,?_⟩
 unfold zeroValue; rw [aa (cj hi w)]; simp only [hv]; rfl
theorem fQ {t:TypeId} {d:TypeDesc} (h:P.underlying t=some d) (w:World):(isAgg t).run P w=.ok (re d) w:=by
 unfold isAgg; rw [aa (am h w)]
 cases d <;> rfl
theorem gr {t:TypeId} {n:Option Nat} (h:kD P t=some n):∃ d,P.underlying t=some d/\((re d=true/\∃ k,n=some k/\cv P t=some k) ∨ (re d=false/\n=none)):=by
 unfold kD at h
 split at h
 ·rename_i d i hd hi
  cases h
  refine ⟨d,hd,?_⟩
  cases e:re d
  ·exact .inr ⟨rfl,rfl⟩
  ·exact .inl ⟨rfl,i.size,by simp,by simp [cv,hi]⟩
 ·cases h
theorem Al {x:Operand} (ho:o.op=.move x ∨ o.op=.assign x) (hs:af m sl a.tmps.toList) (h:aw B m lh w) (hv:vcI B.w0 S sl lh pl K (.mov (aD x))):bE P o a w (Post B m lh K) :=
 .inl ⟨a.eval x,w,by rcases ho with ho | ho <;> (simp only [execOp,ho]; rfl),Post.same h (au hs x) hv⟩
theorem eL {m:ao} {b:Bool} {v:Value} (h:vrel m (.bool b) v):v=.bool b:=by simpa only [vrel] using h
theorem dj {m:ao} {k:IntKind} {n:Int} {v:Value} (h:vrel m (.int k n) v):v=.int k n:=by simpa only [vrel] using h
theorem jE {m:ao} {s:ByteArray} {v:Value} (h:vrel m (.str s) v):v=.string s:=by simpa only [vrel] using h
theorem Cl {c x y:Operand} (ho:o.op=.pick c x y) (hs:af m sl a.tmps.toList) (h:aw B m lh w) (hv:vcI B.w0 S sl lh pl K (.pick (aD c) (aD x) (aD y))):bE P o a w (Post B m lh K):=by
 have hc:=au hs c
 simp only [vcI] at hv
 split at hv
 ·rename_i t ht
  rw [ht] at hc
  have hc:=eL hc
  refine .inl ⟨if t then a.eval x else a.eval y,w,?_,?_⟩
  ·simp only [execOp,ho,hc,asBool]; rfl
  ·cases t
   ·exact Post.same h (au hs y) (hv.2 rfl)
   ·exact Post.same h (au hs x) (hv.1 rfl)
 ·exact hv.elim
theorem qt {t:TypeId} {v:Value} (w:World):(newVar t v).run P w=.ok ⟨w.heap.size,0,none⟩ { w with heap:=w.heap.push (.cells v.cells t (0,0)) }:=rfl
theorem gn {t:TypeId} {c:Array Value} (w:World):(newRow t c).run P w=.ok ⟨w.heap.size,0,none⟩ { w with heap:=w.heap.push (.cells c t (0,0)) }:=rfl
theorem Fq0 {t:TypeId} {z:Array Value} (ho:o.op=.alloc t) (hz:nE P t=some z) (h:aw B m lh w) (hv:vcI B.w0 S sl lh pl K (.new t (z.toList.map aS))):bE P o a w (Post B m lh K):=by
 obtain ⟨v,hvz,hrun⟩:=eO hz w
 simp only [vcI] at hv
 obtain ⟨p,m',lh',h1,h2,h3,h4⟩:=eh h (vs:=z) (bd m z.toList) hv
 refine aB (s:=Instr.alloc t true (.tuple #[])) (v:=.pointer (some ⟨w.heap.size,0,none⟩)) (by simp only [execOp,ho]) ?_ ⟨_,m',lh',?_,h2,h3,h4⟩
 ·unfold Instr.alloc; rw [aa hrun]
  show (do pure (Value.pointer (some (← newVar t v))):Sem Value).run P w=_
  rw [aa (qt w),hvz]; rfl
 ·simp only [vrel]; exact ⟨_,rfl,_,h1,rfl⟩
theorem FZ {t:TypeId} {x:Operand} (ho:o.op=.box t x) (hs:af m sl a.tmps.toList) (h:aw B m lh w) (hv:vcI B.w0 S sl lh pl K (.box t (aD x))):bE P o a w (Post B m lh K):=by
 simp only [vcI] at hv
 obtain ⟨hf,hv⟩:=hv
 obtain ⟨hc,_⟩:=jc (au hs x) hf
 obtain ⟨p,m',lh',h1,h2,h3,h4⟩:=eh h hc hv
 refine aB (s:=Instr.box t (a.eval x)) (v:=.pointer (some ⟨w.heap.size,0,none⟩)) (by simp only [execOp,ho]) ?_ ⟨_,m',lh',?_,h2,h3,h4⟩
 ·unfold Instr.box; rw [aa (qt w)]; rfl
 ·simp only [vrel]; exact ⟨_,rfl,_,h1,rfl⟩
theorem tE (off:Nat):∀ (l:List Value) (j:Nat) (cs:Array Value),((l.zipIdx j).foldl (fun (cs:Array Value) (p:Value × Nat)=>cs.setIfInBounds (off+p.2) p.1) cs).toList =
 (l.foldl (fun (acc:List Value × Nat) v=>(acc.1.set acc.2 v,acc.2+1)) (cs.toList,off+j)).1
 | [],_,_=>rfl
 | v::l,j,cs=>by
   simp only [List.zipIdx_cons,List.foldl_cons]
   rw [tE off l (j+1)]
   simp only [Array.toList_setIfInBounds]
   rfl
theorem wL {m:ao}:∀ (xs:List ab) (us:List Value) (cs:List ab) (vs:List Value) (off:Nat),af m xs us->af m cs vs ->
 af m (wr cs off xs) (us.foldl (fun (acc:List Value × Nat) v=>(acc.1.set acc.2 v,acc.2+1)) (vs,off)).1
 | [],us,cs,vs,off,hx,hc=>by simp only [af] at hx; subst hx; exact hc
 | x::xs,us,cs,vs,off,hx,hc=>by
   simp only [af] at hx; obtain ⟨u,us,rfl,h1,h2⟩:=hx
   simp only [wr,List.foldl_cons]
   exact wL xs us _ _ _ h2 (ej off hc h1)
theorem eW {pls:Nat->Option (Nat × Nat)} (hs:af m sl a.tmps.toList):∀ (ps:List (Nat × Operand)) (qs:List (Nat × Nat × Arg)) (z:List ab) (zs:Array Value) (K:List ab->Prop),
 jH pls ps=some qs->af m z zs.toList->parts sl qs z K->∃ cs vs,Instr.fill pls zs (ps.map fun (i,x)=>(i,a.eval x))=some vs/\af m cs vs.toList/\K cs
 | [],qs,z,zs,K,hc,hz,hp=>by
   simp only [jH,Option.some.injEq] at hc; subst hc
   exact ⟨z,zs,by simp [Instr.fill],hz,hp⟩
 | (i,x)::ps,qs,z,zs,K,hc,hz,hp=>by
   simp only [jH] at hc
   split at hc
   ·rename_i off n l hpl hl
    cases hc
    simp only [parts] at hp
    obtain ⟨hf,hn,hle,hp⟩:=hp
    obtain ⟨h1,_⟩:=jc (au hs x) hf
    have hl1:=bo h1
    have hl2:=bo hz
    simp only [Array.length_toList] at hl1 hl2
    have hw:=wL _ _ _ _ off h1 hz
    rw [show off=off+0 from rfl,← tE off _ 0 zs] at hw
    obtain ⟨cs,vs,h3,h4,h5⟩:=eW hs ps l (wr z off (arg sl (aD x)).cells) _ K hl hw hp
    refine ⟨cs,vs,?_,h4,h5⟩
    simp only [List.map_cons,Instr.fill,hpl]
    rw [if_neg (by simp; omega)]
    rw [← h3]
    congr 1
    rw [← Array.foldl_toList,Array.toList_zipIdx]
   ·cases hc
theorem oQ:∀ (fs:List Field) (pls:List (Nat × Nat)),(fs.mapM fun f=>(cv P f.type).map fun n=>(f.offset,n))=some pls->∀ w,
 (fs.mapM (m:=Sem) fun f=>do pure (f.offset,← sizeOf f.type)).run P w=.ok pls w
 | [],pls,h,w=>by simp at h; subst h; rfl
 | f::fs,pls,h,w=>by
   simp only [List.mapM_cons,Option.pure_def,Option.bind_eq_bind,Option.bind_eq_some_iff,Option.map_eq_some_iff,Option.some.injEq] at h
   obtain ⟨a,⟨n,hn,rfl⟩,l,hl,rfl⟩:=h
   simp only [List.mapM_cons]
   rw [aa (a:=(f.offset,n)) (w':=w) (by rw [aa (bu hn w)]; rfl)]
   rw [aa (oQ fs l hl w)]
   rfl
end
end Go.Sx
namespace Go.Sx
section
variable {P:Program} {B:bm} {S:FuncId->bf} {m:ao} {sl:List ab} {lh:List ac} {w:World} {a:Act} {o:Oper} {pl:Option Nat} {K:ab->List ac->Prop}
theorem me {cs:List ab} {v:Value} (h:vrel m (.agg cs) v):∃ vs,v=.agg vs/\af m cs vs.toList:=by simpa only [vrel] using h
theorem fh {p:Option Ptr} {v:Value} (h:vrel m (.ptr p) v):∃ q,v=.pointer q/\bN m p q:=by simpa only [vrel] using h
theorem dM {p:Option Ptr} {n c:Nat} {v:Value} (h:vrel m (.slice p n c) v):∃ q,v=.slice q n c/\bN m p q:=by simpa only [vrel] using h
theorem sT {p:Ptr} {q:Option Addr} (h:bN m (some p) q):∃ a,q=some a/\bN m (some p) (some a):=by
 cases p with
 | l k off=>obtain ⟨b,hb,rfl⟩:=h; exact ⟨_,rfl,b,hb,rfl⟩
 | g a=>simp only [bN] at h; subst h; exact ⟨a,rfl,rfl⟩
theorem mB {fs:Array Field} {pls:List (Nat × Nat)} (h:pb P fs=some pls) (w:World) :
 (fs.mapM (m:=Sem) fun f=>do pure (f.offset,← sizeOf f.type)).run P w=.ok pls.toArray w:=by
 have h1:=oQ (P:=P) fs.toList pls h w
 have e:(fs.mapM (m:=Sem) fun f=>do pure (f.offset,← sizeOf f.type))=(do pure (← fs.toList.mapM (m:=Sem) fun f=>do pure (f.offset,← sizeOf f.type)).toArray):=by
  rw [Array.mapM_eq_mapM_toList]; rfl
 rw [e,aa h1]; rfl
theorem BJ {t:TypeId} {ps:Array (Nat × Operand)} {i:IOp} {eqs:List TypeId} (ho:o.op=.build t ps) (hc:dU P eqs o=some i) (hs:af m sl a.tmps.toList) (h:aw B m lh w)
 (hv:vcI B.w0 S sl lh pl K i):bE P o a w (Post B m lh K):=by
 simp only [dU,ho] at hc
 split at hc
 ·rename_i fs z hu hz
  split at hc
  ·rename_i pls hpl
   simp only [Option.map_eq_some_iff] at hc
   obtain ⟨qs,hq,rfl⟩:=hc
   simp only [vcI] at hv
   obtain ⟨cs,vs,h1,h2,h3⟩:=eW hs ps.toList qs _ z _ hq (bd m z.toList) hv
   obtain ⟨v,hvz,hrun⟩:=eO hz w
   refine aB (s:=Instr.build t (ps.map fun (i,x)=>(i,a.eval x))) (v:=.agg vs) (by simp only [execOp,ho]) ?_ (Post.same h (by simp only [vrel]; exact ⟨_,rfl,h2⟩) h3)
   unfold Instr.build
   rw [aa hrun,aa (am hu w)]
   dsimp only
   rw [aa (mB hpl w)]
   have e:(fun x:Nat=>pls.toArray[x]?)=(fun x:Nat=>pls[x]?):=by funext x; simp
   simp only [e,Array.toList_map,hvz,h1]
   rfl
  ·cases hc
 ·rename_i n e z hu hz
  split at hc
  ·rename_i sz hsz
   simp only [Option.map_eq_some_iff] at hc
   obtain ⟨qs,hq,rfl⟩:=hc
   simp only [vcI] at hv
   obtain ⟨cs,vs,h1,h2,h3⟩:=eW hs ps.toList qs _ z _ hq (bd m z.toList) hv
   obtain ⟨v,hvz,hrun⟩:=eO hz w
   refine aB (s:=Instr.build t (ps.map fun (i,x)=>(i,a.eval x))) (v:=.agg vs) (by simp only [execOp,ho]) ?_ (Post.same h (by simp only [vrel]; exact ⟨_,rfl,h2⟩) h3)
   unfold Instr.build
   rw [aa hrun,aa (am hu w)]
   dsimp only
   rw [aa (bu hsz w)]
   simp only [Array.toList_map,hvz,h1]
   rfl
  ·cases hc
 ·cases hc
theorem HI {t:TypeId} {x:Operand} {i:IOp} {eqs:List TypeId} (ho:o.op=.load t x) (hc:dU P eqs o=some i) (hs:af m sl a.tmps.toList) (h:aw B m lh w)
 (hv:vcI B.w0 S sl lh pl K i):bE P o a w (Post B m lh K):=by
 simp only [dU,ho] at hc
 have hx:=au hs x
 split at hc
 ·rename_i n hn
  cases hc
  simp only [vcI] at hv
  split at hv
  ·rename_i p hp
   rw [hp] at hx
   obtain ⟨q,hq,hpq⟩:=fh hx
   obtain ⟨cs,hcs,hK⟩:=hv
   obtain ⟨ad,vs,rfl,hrun,hr⟩:=nL (P:=P) h hpq hcs
   obtain ⟨d,hd,hag⟩:=gr hn
   rcases hag with ⟨h1,k,hk,h2⟩ | ⟨_,hk⟩
   ·cases hk
    refine aB (s:=Instr.loadAt t (a.eval x)) (v:=.agg vs) (by simp only [execOp,ho]) ?_ (Post.same h (by simp only [vrel]; exact ⟨_,rfl,hr⟩) hK)
    unfold Instr.loadAt
    rw [hq,aa (a:=ad) (w':=w) rfl]
    unfold loadVar
    rw [aa (fQ hd w),h1]
    simp only [if_true]
    rw [aa (bu h2 w),aa hrun]; rfl
   ·cases hk
  ·exact hv.elim
 ·rename_i hn
  cases hc
  simp only [vcI] at hv
  split at hv
  ·rename_i p hp
   rw [hp] at hx
   obtain ⟨q,hq,hpq⟩:=fh hx
   obtain ⟨r,hcs,hK⟩:=hv
   obtain ⟨ad,v,rfl,hrun,hr⟩:=xl h hpq hcs
   obtain ⟨d,hd,hag⟩:=gr hn
   rcases hag with ⟨_,k,hk,_⟩ | ⟨h1,_⟩
   ·cases hk
   ·refine aB (s:=Instr.loadAt t (a.eval x)) (v:=v) (by simp only [execOp,ho]) ?_ (Post.same h hr hK)
    unfold Instr.loadAt
    rw [hq,aa (a:=ad) (w':=w) rfl]
    unfold loadVar
    rw [aa (fQ hd w),h1]
    exact qX hrun
  ·exact hv.elim
 ·cases hc
theorem I0 {t:TypeId} {x y:Operand} {n:Nat} (ho:o.op=.store t x y) (hn:cv P t=some n) (hs:af m sl a.tmps.toList) (h:aw B m lh w)
 (hv:vcI B.w0 S sl lh pl K (.st n (aD x) (aD y))):bE P o a w (Post B m lh K):=by
 have hx:=au hs x
 simp only [vcI] at hv
 split at hv
 ·rename_i k off hp
  rw [hp] at hx
  obtain ⟨q,hq,hpq⟩:=fh hx
  obtain ⟨b,hb,rfl⟩:=hpq
  obtain ⟨cs,ty,hk,hf,hl,hle,hK⟩:=hv
  obtain ⟨hc1,hc2⟩:=jc (au hs y) hf
  obtain ⟨w',hrun,hrel⟩:=aw.stores (P:=P) (off:=off) hb (arg sl (aD y)).cells _ cs lh w 0 h hk (by omega) hc1 hc2
  refine yF (s:=Instr.storeAt t (a.eval x) (a.eval y)) (w':=w') (by simp only [execOp,ho]) ?_ (Post.store (r:=.tup []) hk hrel (by simp [vrel,af,undef]) hK)
  unfold Instr.storeAt
  rw [hq,aa (a:=(⟨b,off,none⟩:Addr)) (w':=w) rfl]
  unfold storeVar
  rw [aa (bu hn w)]
  have hl1:=bo hc1
  simp only [Array.length_toList] at hl1
  rw [if_neg (by omega)]
  exact hrun
 ·exact hv.elim
theorem JN {x:Operand} (ho:o.op=.nilCheck x) (hs:af m sl a.tmps.toList) (h:aw B m lh w) (hv:vcI B.w0 S sl lh pl K (.nz (aD x))):bE P o a w (Post B m lh K):=by
 have hx:=au hs x
 simp only [vcI] at hv
 split at hv
 ·rename_i p hp
  rw [hp] at hx
  obtain ⟨q,hq,hpq⟩:=fh hx
  obtain ⟨ad,rfl,hpa⟩:=sT hpq
  exact .inl ⟨_,w,by simp only [execOp,ho,hq]; rfl,Post.same h (by simp only [vrel]; exact ⟨_,rfl,hpa⟩) hv⟩
 ·rename_i f xs ys hp
  rw [hp] at hx
  have hx':=hx
  simp only [vrel] at hx'
  obtain ⟨us,vs,hq,_⟩:=hx'
  exact .inl ⟨_,w,by simp only [execOp,ho,hq]; rfl,Post.same h (by rw [hq] at hx; exact hx) hv⟩
 ·exact hv.elim
theorem wF {op:BinOp} {t:TypeId} {x y:Operand} {k:IntKind} {n:Int} {v:Value} (w:World):(eqGuard op t x y (.int k n) v).run P w=.ok () w:=by
 cases op <;> rfl
theorem vG {op:BinOp} {t:TypeId} {x y:Operand} {s:ByteArray} {v:Value} (w:World):(eqGuard op t x y (.string s) v).run P w=.ok () w:=by
 cases op <;> rfl
theorem tX {op:BinOp} {t:TypeId} {x y:Operand} {b:Bool} {v:Value} (w:World):(eqGuard op t x y (.bool b) v).run P w=.ok () w:=by
 cases op <;> rfl
theorem vI {k:IntKind} {n:Int}:vrel m (.int k n) (.int k n):=by simp [vrel]
theorem vB {b:Bool}:vrel m (.bool b) (.bool b):=by simp [vrel]
theorem vS {s:ByteArray}:vrel m (.str s) (.string s):=by simp [vrel]
theorem yh {op:BinOp} {k:IntKind} {x y:Int} {t:TypeId} {K':ab->Prop} (w:World) (h:ow op k x y K'):∃ r v,vrel m r v/\K' r/\(binOp op t (.int k x) (.int k y)).run P w=.ok v w:=by
 cases op <;> simp only [ow] at h <;> try exact h.elim
 case add=>exact ⟨_,_,vI,h,by simp [binOp,Op.intArith]⟩
 case sub=>exact ⟨_,_,vI,h,by simp [binOp,Op.intArith]⟩
 case mul=>exact ⟨_,_,vI,h,by simp [binOp,Op.intArith]⟩
 case quo=>exact ⟨_,_,vI,h.2,by simp [binOp,Op.intDiv,h.1]⟩
 case rem=>exact ⟨_,_,vI,h.2,by simp [binOp,Op.intDiv,h.1]⟩
 case eql=>exact ⟨_,_,vB,h,by simp [binOp,Op.intCmp]⟩
 case neq=>exact ⟨_,_,vB,h,by simp [binOp,Op.intCmp]⟩
 case lss=>exact ⟨_,_,vB,h,by simp [binOp,Op.intCmp]⟩
 case leq=>exact ⟨_,_,vB,h,by simp [binOp,Op.intCmp]⟩
 case gtr=>exact ⟨_,_,vB,h,by simp [binOp,Op.intCmp]⟩
 case geq=>exact ⟨_,_,vB,h,by simp [binOp,Op.intCmp]⟩
 case and=>exact ⟨_,_,vI,h,by simp only [binOp,ne_eq,not_true_eq_false,if_false,intBits_and]; rfl⟩
 case or=>exact ⟨_,_,vI,h,by simp only [binOp,ne_eq,not_true_eq_false,if_false,intBits_or]; rfl⟩
 case xor=>exact ⟨_,_,vI,h,by simp only [binOp,ne_eq,not_true_eq_false,if_false,intBits_xor]; rfl⟩
 case shl=>exact ⟨_,_,vI,h.2,by simp only [binOp,Op.shift]; rw [if_neg (Int.not_lt.2 h.1)]; rfl⟩
 case shr=>exact ⟨_,_,vI,h.2,by simp only [binOp,Op.shift]; rw [if_neg (Int.not_lt.2 h.1)]; rfl⟩
theorem yu {op:BinOp} {x y:ByteArray} {t:TypeId} {K':ab->Prop} (w:World) (h:uh op x y K'):∃ r v,vrel m r v/\K' r/\(binOp op t (.string x) (.string y)).run P w=.ok v w:=by
 cases op <;> simp only [uh] at h <;> try exact h.elim
 case eql=>exact ⟨_,_,vB,h,by simp only [binOp,Op.stringOp]; rfl⟩
 case neq=>exact ⟨_,_,vB,h,by simp only [binOp,Op.stringOp]; rfl⟩
 case add=>exact ⟨_,_,vS,h.2,by simp only [binOp,Op.stringOp]; rw [if_neg (Int.not_lt.2 h.1)]; rfl⟩
theorem zX {op:BinOp} {t u:TypeId} {x y:Operand} (ho:o.op=.binOp op t x y u) (hs:af m sl a.tmps.toList) (h:aw B m lh w) (hv:vcI B.w0 S sl lh pl K (.bin op (aD x) (aD y))):bE P o a w (Post B m lh K):=by
 have hx:=au hs x
 have hy:=au hs y
 simp only [vcI,Ce] at hv
 split at hv
 ·rename_i k p k' q hp hq
  rw [hp] at hx; rw [hq] at hy
  have hx:=dj hx
  have hy:=dj hy
  obtain ⟨rfl,hv⟩:=hv
  obtain ⟨r,v,h2,h3,h1⟩:=yh (P:=P) (t:=t) (m:=m) w hv
  refine aB (s:=do eqGuard op t x y (a.eval x) (a.eval y); binOp op t (a.eval x) (a.eval y)) (v:=v) (by simp only [execOp,ho]) ?_ (Post.same h h2 h3)
  rw [hx,hy,aa (wF w)]
  exact h1
 ·rename_i p q hp hq
  rw [hp] at hx; rw [hq] at hy
  have hx:=jE hx
  have hy:=jE hy
  obtain ⟨r,v,h2,h3,h1⟩:=yu (P:=P) (t:=t) (m:=m) w hv
  refine aB (s:=do eqGuard op t x y (a.eval x) (a.eval y); binOp op t (a.eval x) (a.eval y)) (v:=v) (by simp only [execOp,ho]) ?_ (Post.same h h2 h3)
  rw [hx,hy,aa (vG w)]
  exact h1
 ·exact hv.elim
end
end Go.Sx
namespace Go.Sx
section
variable {P:Program} {B:bm} {S:FuncId->bf} {m:ao} {sl:List ab} {lh:List ac} {w:World} {a:Act} {o:Oper} {pl:Option Nat} {K:ab->List ac->Prop}
theorem nt (n:Nat) (z:Array Value):((Array.range n).map (z[· % z.size]!)).toList=(List.range n).map (z[· % z.size]!):=by simp
theorem GE {t:TypeId} {len:Nat} {ps:Array (Nat × Operand)} {i:IOp} {eqs:List TypeId} (ho:o.op=.buildSlice t len ps) (hc:dU P eqs o=some i) (hs:af m sl a.tmps.toList) (h:aw B m lh w)
 (hv:vcI B.w0 S sl lh pl K i):bE P o a w (Post B m lh K):=by
 simp only [dU,ho] at hc
 split at hc
 ·rename_i e hu
  split at hc
  ·rename_i n z hn hz
   obtain ⟨v,hvz,hrun⟩:=eO hz w
   split at hc
   ·rename_i hcond
    simp only [Bool.and_eq_true,decide_eq_true_eq,Bool.or_eq_true,bne_iff_ne,beq_iff_eq] at hcond
    simp only [Option.map_eq_some_iff] at hc
    obtain ⟨qs,hq,rfl⟩:=hc
    simp only [vcI] at hv
    obtain ⟨cs,vs,h1,h2,h3⟩:=eW hs ps.toList qs _ ((Array.range (len * n)).map (z[· % z.size]!)) _ hq (by rw [nt]; exact bd m _) hv
    obtain ⟨p,m',lh',g1,g2,g3,g4⟩:=eh h h2 h3
    refine aB (s:=Instr.buildSlice t len (ps.map fun (i,x)=>(i,a.eval x))) (v:=.slice (some ⟨w.heap.size,0,none⟩) len len) (by simp only [execOp,ho]) ?_
     ⟨_,m',lh',by simp only [vrel]; exact ⟨_,rfl,_,g1,rfl⟩,g2,g3,g4⟩
    unfold Instr.buildSlice
    rw [aa (am hu w)]
    dsimp only
    rw [aa (bu hn w),if_neg (by omega)]
    by_cases hz0:len * n=0
    ·rw [if_pos hz0]
     have hzs:z.size=0:=hcond.2.resolve_left (fun c=>c hz0)
     have hze:z=#[]:=Array.eq_empty_of_size_eq_zero hzs
     subst hze
     simp only [pure_bind,Array.toList_map]
     simp only [hz0] at h1 ⊢
     rw [h1]
     dsimp only
     rw [aa (gn w)]; rfl
    ·rw [if_neg hz0]
     rw [aa hrun,pure_bind,hvz]
     simp only [Array.toList_map,h1]
     rw [aa (gn w)]; rfl
   ·split at hc
    ·rename_i hz0
     simp only [Option.map_eq_some_iff] at hc
     obtain ⟨qs,hq,rfl⟩:=hc
     simp only [vcI] at hv
     obtain ⟨cs,vs,h1,h2,h3⟩:=eW hs ps.toList qs [] #[] _ hq (by simp [af]) hv
     obtain ⟨p,m',lh',g1,g2,g3,g4⟩:=eh h h2 h3
     refine aB (s:=Instr.buildSlice t len (ps.map fun (i,x)=>(i,a.eval x))) (v:=.slice (some ⟨w.heap.size,0,none⟩) len len) (by simp only [execOp,ho]) ?_
      ⟨_,m',lh',by simp only [vrel]; exact ⟨_,rfl,_,g1,rfl⟩,g2,g3,g4⟩
     unfold Instr.buildSlice
     rw [aa (am hu w)]
     dsimp only
     rw [aa (bu hn w),if_neg (by omega),if_pos hz0]
     simp only [pure_bind,Array.toList_map]
     have e:(Array.range (len * n)).map (fun x=>(#[]:Array Value)[x % (#[]:Array Value).size]!)=#[]:=by rw [hz0]; simp [Array.range]
     rw [e,h1]
     dsimp only
     rw [aa (gn w)]; rfl
    ·cases hc
  ·cases hc
 ·cases hc
theorem zt {t u:TypeId} {x y:Operand} {op:BinOp} {neg:Bool} (hop:op=if neg then .neq else .eql) (ho:o.op=.binOp op t x y u) (hu:P.underlying t=some .bool) (hs:af m sl a.tmps.toList) (h:aw B m lh w)
 (hv:vcI B.w0 S sl lh pl K (.eqb neg (aD x) (aD y))):bE P o a w (Post B m lh K):=by
 have hx:=au hs x
 have hy:=au hs y
 simp only [vcI] at hv
 split at hv
 ·rename_i p q hp hq
  rw [hp] at hx; rw [hq] at hy
  have hx:=eL hx
  have hy:=eL hy
  refine aB (s:=do eqGuard op t x y (a.eval x) (a.eval y); binOp op t (a.eval x) (a.eval y)) (by simp only [execOp,ho]) ?_ (Post.same h vB hv)
  rw [hx,hy,aa (tX w)]
  have he:(Op.equal t (.bool p) (.bool q)).run P w=.ok (p == q) w:=by
   unfold Op.equal Op.maxDepth Op.equalIn
   rw [aa (am hu w)]; rfl
  subst hop
  cases neg
  ·simp only [Bool.false_eq_true,if_false,binOp]; rw [aa he]; rfl
  ·simp only [if_true,binOp]; rw [aa he]; rfl
 ·exact hv.elim
theorem rI {op:BinOp} {t:TypeId} {x y:Operand} {q:Option Addr} {n c:Nat} {v:Value} (w:World):(eqGuard op t x y (.slice q n c) v).run P w=.ok () w:=by
 unfold eqGuard; cases op <;> rfl
theorem zT {t u e:TypeId} {x y:Operand} {op:BinOp} {neg:Bool} (hop:op=if neg then .neq else .eql) (ho:o.op=.binOp op t x y u) (hu:P.underlying t=some (.slice e)) (hy:pz y=true) (hs:af m sl a.tmps.toList) (h:aw B m lh w)
 (hv:vcI B.w0 S sl lh pl K (.isn neg (aD x))):bE P o a w (Post B m lh K):=by
 have hx:=au hs x
 have hyv:a.eval y=.slice none 0 0:=by
  unfold pz at hy
  split at hy
  ·rfl
  ·cases hy
 simp only [vcI] at hv
 split at hv
 ·rename_i p n c hp
  rw [hp] at hx
  obtain ⟨q,hq,hpq⟩:=dM hx
  have hpq':p.isNone=q.isNone:=by
   cases p with
   | none=>simp only [bN] at hpq; subst hpq; rfl
   | some p =>
     cases p with
     | g a=>simp only [bN] at hpq; subst hpq; rfl
     | l k off=>obtain ⟨b,_,rfl⟩:=hpq; rfl
  rw [hpq'] at hv
  refine aB (s:=do eqGuard op t x y (a.eval x) (a.eval y); binOp op t (a.eval x) (a.eval y)) (by simp only [execOp,ho]) ?_ (Post.same h vB hv)
  rw [hq,hyv,aa (rI w)]
  have he:(Op.equal t (.slice q n c) (.slice none 0 0)).run P w=.ok q.isNone w:=by
   unfold Op.equal Op.maxDepth Op.equalIn
   rw [aa (am hu w)]
   cases q <;> rfl
  subst hop
  cases neg
  ·simp only [Bool.false_eq_true,if_false,binOp]; rw [aa he]; rfl
  ·simp only [if_true,binOp]; rw [aa he]; rfl
 ·exact hv.elim
theorem po {t u:TypeId} {x y:Operand} {op:BinOp} {neg:Bool} {n:Nat} (hn:cv P t=some n) (hop:op=if neg then .neq else .eql) (ho:o.op=.binOp op t x y u) (he:cm P t) (hs:af m sl a.tmps.toList) (h:aw B m lh w)
 (hv:vcI B.w0 S sl lh pl K (.eqa neg n (aD x) (aD y))):bE P o a w (Post B m lh K):=by
 have hx:=au hs x
 have hy:=au hs y
 simp only [vcI] at hv
 split at hv
 ·rename_i xs ys hp hq
  rw [hp] at hx; rw [hq] at hy
  obtain ⟨us,hux,hus⟩:=me hx
  obtain ⟨vs,hvy,hvs⟩:=me hy
  obtain ⟨hlen,b,hb,hK⟩:=hv
  refine aB (s:=do eqGuard op t x y (a.eval x) (a.eval y); binOp op t (a.eval x) (a.eval y)) (by simp only [execOp,ho]) ?_ (Post.same h vB hK)
  have hg:(eqGuard op t x y (.agg us) (.agg vs)).run P w=.ok () w:=by
   subst hop
   unfold eqGuard
   cases neg
   ·simp only [Bool.false_eq_true,if_false,Bool.not_true]
    rw [aa (a:=P) (w':=w) rfl,aa (a:=P) (w':=w) rfl,he.1]; rfl
   ·simp only [if_true,Bool.not_true,Bool.false_eq_true,if_false]
    rw [aa (a:=P) (w':=w) rfl,aa (a:=P) (w':=w) rfl,he.1]; rfl
  rw [hux,hvy,aa hg]
  have he2:=he.2 n hn xs ys us vs m b w hlen hus hvs hb
  subst hop
  cases neg
  ·simp only [Bool.false_eq_true,if_false,binOp]; rw [aa he2]; rfl
  ·simp only [if_true,binOp]; rw [aa he2]; rfl
 ·exact hv.elim
theorem JQ {op:UnOp} {t:TypeId} {x:Operand} (ho:o.op=.unOp op t x) (hs:af m sl a.tmps.toList) (h:aw B m lh w) (hv:vcI B.w0 S sl lh pl K (.un op (aD x))):bE P o a w (Post B m lh K):=by
 have hx:=au hs x
 simp only [vcI] at hv
 split at hv
 ·rename_i k n hp
  rw [hp] at hx
  exact aB (s:=Op.unary .neg (a.eval x)) (by simp only [execOp,ho]) (by rw [dj hx]; rfl) (Post.same h vI hv)
 ·rename_i b hp
  rw [hp] at hx
  exact aB (s:=Op.unary .not (a.eval x)) (by simp only [execOp,ho]) (by rw [eL hx]; rfl) (Post.same h vB hv)
 ·exact hv.elim
theorem Em {s d:TypeId} {ds:TypeDesc} {k:IntKind} {x:Operand} (ho:o.op=.convert s d x) (hs1:P.underlying s=some ds) (hd:P.underlying d=some (.int k)) (hs:af m sl a.tmps.toList) (h:aw B m lh w)
 (hv:vcI B.w0 S sl lh pl K (.conv k (aD x))):bE P o a w (Post B m lh K):=by
 have hx:=au hs x
 simp only [vcI] at hv
 split at hv
 ·rename_i k' n hp
  rw [hp] at hx
  refine aB (s:=convert s d (a.eval x)) (by simp only [execOp,ho]) ?_ (Post.same h vI hv)
  rw [dj hx]
  unfold convert
  rw [aa (am hs1 w),aa (am hd w)]; rfl
 ·exact hv.elim
theorem E9 {f:Fn} {xs ys:Array Operand} (ho:o.op=.makeFunc f xs ys) (hs:af m sl a.tmps.toList) (h:aw B m lh w) (hv:vcI B.w0 S sl lh pl K (.mkf f (xs.toList.map aD) (ys.toList.map aD))) :
 bE P o a w (Post B m lh K):=by
 refine aB (s:=Instr.makeFunc f (xs.map a.eval) (ys.map a.eval)) (by simp only [execOp,ho]) rfl (Post.same h ?_ hv)
 simp only [vrel]
 exact ⟨_,_,rfl,by rw [Array.toList_map]; exact d8 hs _,by rw [Array.toList_map]; exact d8 hs _⟩
theorem Iz {t:TypeId} {x:Operand} {i:Nat} {fs:Array Field} {f:Field} {n:Nat} (ho:o.op=.fieldAddr t x i) (hu:P.underlying t=some (.struct fs)) (hf:fs[i]? = some f) (hn:cv P f.type=some n) (hn0:n ≠ 0)
 (hs:af m sl a.tmps.toList) (h:aw B m lh w) (hv:vcI B.w0 S sl lh pl K (.fa f.offset (aD x))):bE P o a w (Post B m lh K):=by
 have hx:=au hs x
 simp only [vcI] at hv
 split at hv
 ·rename_i p hp
  rw [hp] at hx
  obtain ⟨q,hq,hpq⟩:=fh hx
  obtain ⟨ad,rfl,hpa⟩:=l8 hpq f.offset
  refine aB (s:=Instr.fieldAt t (a.eval x) i) (v:=.pointer (some (ad.add f.offset))) (by simp only [execOp,ho]) ?_ (Post.same h (by simp only [vrel]; exact ⟨_,rfl,hpa⟩) hv)
  unfold Instr.fieldAt
  rw [aa (am hu w)]
  dsimp only
  rw [hf]
  dsimp only
  rw [hq,aa (a:=ad) (w':=w) rfl]
  unfold fieldPlace
  rw [aa (a:=ad.add f.offset) (w':=w) (by rw [aa (bu hn w),if_neg hn0]; rfl)]
  rfl
 ·exact hv.elim
theorem lB {t:TypeId} {n:Nat} (h:kD P t=some (some n)) (cs:Array Value) (off:Nat) (w:World):(part t cs off).run P w=.ok (.agg (cs.extract off (off+n))) w:=by
 obtain ⟨d,hd,hag⟩:=gr h
 rcases hag with ⟨h1,k,hk,h2⟩ | ⟨_,hk⟩
 ·cases hk
  unfold part
  rw [aa (fQ hd w),h1]
  simp only [if_true]
  rw [aa (bu h2 w)]; rfl
 ·cases hk
theorem mA {t:TypeId} (h:kD P t=some none) (cs:Array Value) (off:Nat) {v:Value} (hv:cs[off]? = some v) (w:World):(part t cs off).run P w=.ok v w:=by
 obtain ⟨d,hd,hag⟩:=gr h
 rcases hag with ⟨_,k,hk,_⟩ | ⟨h1,_⟩
 ·cases hk
 ·unfold part
  rw [aa (fQ hd w),h1]
  simp only [Bool.false_eq_true,if_false,hv]; rfl
theorem kI {cs:List ab} {vs:Array Value} (h:af m cs vs.toList) (off n:Nat):af m ((cs.drop off).take n) (vs.extract off (off+n)).toList:=by
 have:=gA n (iX off h)
 rw [Array.toList_extract]
 simpa [List.extract_eq_take_drop] using this
theorem FO {t:TypeId} {x:Operand} {i:Nat} {fs:Array Field} {f:Field} {n:Option Nat} (ho:o.op=.field t x i) (hu:P.underlying t=some (.struct fs)) (hf:fs[i]? = some f) (hn:kD P f.type=some n)
 (hs:af m sl a.tmps.toList) (h:aw B m lh w) (hv:vcI B.w0 S sl lh pl K (.fld f.offset n (aD x))):bE P o a w (Post B m lh K):=by
 have hx:=au hs x
 simp only [vcI] at hv
 split at hv
 ·rename_i cs hp
  rw [hp] at hx
  obtain ⟨vs,hq,hvs⟩:=me hx
  have hrun:∀ {v:Value},(part f.type vs f.offset).run P w=.ok v w->(Instr.field t (a.eval x) i).run P w=.ok v w:=fun hr=>by
   unfold Instr.field
   rw [aa (am hu w)]
   dsimp only
   rw [hf]
   dsimp only
   rw [hq,aa (a:=vs) (w':=w) rfl]
   exact hr
  cases n with
  | some n =>
    exact aB (s:=Instr.field t (a.eval x) i) (by simp only [execOp,ho]) (hrun (lB hn vs f.offset w)) (Post.same h (by simp only [vrel]; exact ⟨_,rfl,kI hvs _ _⟩) hv)
  | none =>
    obtain ⟨r,hr,hK⟩:=hv
    obtain ⟨v,hv,hrv⟩:=cU _ hvs hr
    exact aB (s:=Instr.field t (a.eval x) i) (by simp only [execOp,ho]) (hrun (mA hn vs f.offset (by simpa using hv) w)) (Post.same h hrv hK)
 ·exact hv.elim
theorem Fl {t:TypeId} {x ix:Operand} {n esz:Nat} {e:TypeId} (ho:o.op=.indexAddr t x ix) (hu:P.underlying t=some (.array n e)) (he:cv P e=some esz) (hs:af m sl a.tmps.toList) (h:aw B m lh w)
 (hv:vcI B.w0 S sl lh pl K (.iaA n esz (aD x) (aD ix))):bE P o a w (Post B m lh K):=by
 have hx:=au hs x
 have hy:=au hs ix
 simp only [vcI] at hv
 split at hv
 ·rename_i p k i hp hi
  rw [hp] at hx; rw [hi] at hy
  obtain ⟨q,hq,hpq⟩:=fh hx
  obtain ⟨h1,h2,hK⟩:=hv
  obtain ⟨ad,rfl,hpa⟩:=l8 hpq (i.toNat * esz)
  refine aB (s:=Instr.indexAt t (a.eval x) (a.eval ix)) (by simp only [execOp,ho]) ?_ (Post.same h (v:=.pointer (some (ad.add (i.toNat * esz)))) (by simp only [vrel]; exact ⟨_,rfl,hpa⟩) hK)
  unfold Instr.indexAt
  rw [dj hy,aa (a:=(k,i)) (w':=w) rfl,aa (am hu w),hq]
  dsimp only
  rw [aa (a:=ad) (w':=w) rfl,pure_bind]
  dsimp only
  rw [aa (am hu w)]
  dsimp only
  rw [if_pos ⟨h1,h2⟩,aa (bu he w)]; rfl
 ·exact hv.elim
theorem FE {t:TypeId} {x ix:Operand} {esz:Nat} {e:TypeId} (ho:o.op=.indexAddr t x ix) (hu:P.underlying t=some (.slice e)) (he:cv P e=some esz) (hs:af m sl a.tmps.toList) (h:aw B m lh w)
 (hv:vcI B.w0 S sl lh pl K (.iaS esz (aD x) (aD ix))):bE P o a w (Post B m lh K):=by
 have hx:=au hs x
 have hy:=au hs ix
 simp only [vcI] at hv
 split at hv
 ·rename_i p n c k i hp hi
  rw [hp] at hx; rw [hi] at hy
  obtain ⟨q,hq,hpq⟩:=dM hx
  obtain ⟨h1,h2,p',rfl,hK⟩:=hv
  obtain ⟨ad,rfl,hpa⟩:=l8 hpq (i.toNat * esz)
  refine aB (s:=Instr.indexAt t (a.eval x) (a.eval ix)) (by simp only [execOp,ho]) ?_ (Post.same h (v:=.pointer (some (ad.add (i.toNat * esz)))) (by simp only [vrel]; exact ⟨_,rfl,hpa⟩) hK)
  unfold Instr.indexAt
  rw [dj hy,aa (a:=(k,i)) (w':=w) rfl,aa (am hu w),hq]
  dsimp only
  rw [pure_bind]
  dsimp only
  rw [aa (am hu w)]
  dsimp only
  rw [if_pos ⟨h1,h2⟩,aa (bu he w)]; rfl
 ·exact hv.elim
theorem Ft {t:TypeId} {x ix:Operand} {n esz:Nat} {e:TypeId} {sz:Option Nat} (ho:o.op=.index t x ix) (hu:P.underlying t=some (.array n e)) (he:cv P e=some esz) (ha:kD P e=some sz)
 (hs:af m sl a.tmps.toList) (h:aw B m lh w) (hv:vcI B.w0 S sl lh pl K (.ixA n esz sz (aD x) (aD ix))):bE P o a w (Post B m lh K):=by
 have hx:=au hs x
 have hy:=au hs ix
 simp only [vcI] at hv
 split at hv
 ·rename_i cs k i hp hi
  rw [hp] at hx; rw [hi] at hy
  obtain ⟨vs,hq,hvs⟩:=me hx
  obtain ⟨h1,h2,hK⟩:=hv
  have hrun:∀ {v:Value},(part e vs (i.toNat * esz)).run P w=.ok v w->(Instr.index t (a.eval x) (a.eval ix)).run P w=.ok v w:=fun hr=>by
   unfold Instr.index
   rw [dj hy,aa (a:=(k,i)) (w':=w) rfl,aa (am hu w),hq]
   dsimp only
   rw [if_pos ⟨h1,h2⟩,aa (bu he w)]
   exact hr
  cases sz with
  | some sz =>
    exact aB (s:=Instr.index t (a.eval x) (a.eval ix)) (by simp only [execOp,ho]) (hrun (lB ha vs _ w)) (Post.same h (by simp only [vrel]; exact ⟨_,rfl,kI hvs _ _⟩) hK)
  | none =>
    obtain ⟨r,hr,hK⟩:=hK
    obtain ⟨v,hv,hrv⟩:=cU _ hvs hr
    exact aB (s:=Instr.index t (a.eval x) (a.eval ix)) (by simp only [execOp,ho]) (hrun (mA ha vs _ (by simpa using hv) w)) (Post.same h hrv hK)
 ·exact hv.elim
theorem Fy {t:TypeId} {x ix:Operand} (ho:o.op=.index t x ix) (hu:P.underlying t=some .string) (hs:af m sl a.tmps.toList) (h:aw B m lh w)
 (hv:vcI B.w0 S sl lh pl K (.ixS (aD x) (aD ix))):bE P o a w (Post B m lh K):=by
 have hx:=au hs x
 have hy:=au hs ix
 simp only [vcI] at hv
 split at hv
 ·rename_i s k i hp hi
  rw [hp] at hx; rw [hi] at hy
  obtain ⟨h1,h2,hK⟩:=hv
  refine aB (s:=Instr.index t (a.eval x) (a.eval ix)) (by simp only [execOp,ho]) ?_ (Post.same h vI hK)
  unfold Instr.index
  rw [dj hy,aa (a:=(k,i)) (w':=w) rfl,aa (am hu w),jE hx]
  dsimp only
  have hlt:i.toNat < s.size:=by omega
  rw [if_pos h1]
  have e:s[i.toNat]? = some (s.data.toList.getD i.toNat 0):=by
   have hlt':i.toNat < s.data.size:=hlt
   rw [show s[i.toNat]? = some s[i.toNat] from by simp [hlt]]
   congr 1
   rw [List.getD_eq_getElem?_getD,Array.getElem?_toList,Array.getElem?_eq_getElem hlt']
   rfl
  rw [e]; rfl
 ·exact hv.elim
theorem GF {x:Operand} {i:Nat} (ho:o.op=.extract x i) (hs:af m sl a.tmps.toList) (h:aw B m lh w) (hv:vcI B.w0 S sl lh pl K (.ext (aD x) i)):bE P o a w (Post B m lh K):=by
 have hx:=au hs x
 simp only [vcI] at hv
 split at hv
 ·rename_i vs hp
  rw [hp] at hx
  simp only [vrel] at hx
  obtain ⟨us,hq,hus⟩:=hx
  obtain ⟨r,hr,hK⟩:=hv
  obtain ⟨v,hv,hrv⟩:=cU _ hus hr
  refine aB (s:=Instr.extract (a.eval x) i) (by simp only [execOp,ho]) ?_ (Post.same h hrv hK)
  have hv':us[i]? = some v:=by simpa using hv
  rw [hq]; simp only [Instr.extract,hv']; rfl
 ·exact hv.elim
end
end Go.Sx
namespace Go.Sx
section
variable {P:Program} {B:bm} {S:FuncId->bf} {m:ao} {sl:List ab} {lh:List ac} {w:World} {a:Act} {o:Oper} {pl:Option Nat} {K:ab->List ac->Prop}
theorem cr {b:Builtin} {c:Call} {s:Sem Value} {v:Value} {w':World} {R:Value->World->Prop} (ho:o.op=.call c) (hc:c.callee=.builtin b)
 (hb:∀ cs,builtin b c.argTypes o.type cs (c.args.map a.eval)=(do pure (.value (← s)))) (hs:s.run P w=.ok v w') (hR:R v w'):bE P o a w R:=by
 refine .inl ⟨v,w',?_,hR⟩
 simp only [execOp,ho]
 rw [aa (a:={ target:=.builtin b c.argTypes o.type (c.args.map fun | .const _=>true | _=>false),args:=c.args.map a.eval }) (w':=w) (by simp only [resolve,hc]; rfl)]
 simp only [invoke,hb]
 rw [aa hs]; rfl
theorem Gu {c:Call} {t e:TypeId} {x:Operand} (ho:o.op=.call c) (hc:c.callee=.builtin .len) (ht:c.argTypes.toList=[t]) (hx:c.args.toList=[x])
 (hu:P.underlying t=some (.slice e)) (hs:af m sl a.tmps.toList) (h:aw B m lh w) (hv:vcI B.w0 S sl lh pl K (.len (aD x))):bE P o a w (Post B m lh K):=by
 have e1:c.argTypes=#[t]:=by rw [← Array.toList_inj,ht]
 have e2:c.args=#[x]:=by rw [← Array.toList_inj,hx]
 have hxx:=au hs x
 simp only [vcI] at hv
 split at hv
 ·rename_i p n c' hp
  rw [hp] at hxx
  obtain ⟨q,hq,_⟩:=dM hxx
  refine cr (s:=Builtin.len_ #[t] o.type #[a.eval x]) ho hc (fun cs=>by rw [e1,e2]; simp [builtin]) ?_ (Post.same h vI hv)
  unfold Builtin.len_
  rw [hq]
  show ((underlying t >>= _:Sem Value)).run P w=_
  rw [aa (am hu w)]; rfl
 ·exact hv.elim
theorem CA {c:Call} {t:TypeId} {x:Operand} (ho:o.op=.call c) (hc:c.callee=.builtin .len) (ht:c.argTypes.toList=[t]) (hx:c.args.toList=[x])
 (hu:P.underlying t=some .string) (hs:af m sl a.tmps.toList) (h:aw B m lh w) (hv:vcI B.w0 S sl lh pl K (.lenT (aD x))):bE P o a w (Post B m lh K):=by
 have e1:c.argTypes=#[t]:=by rw [← Array.toList_inj,ht]
 have e2:c.args=#[x]:=by rw [← Array.toList_inj,hx]
 have hxx:=au hs x
 simp only [vcI] at hv
 split at hv
 ·rename_i s hp
  rw [hp] at hxx
  refine cr (s:=Builtin.len_ #[t] o.type #[a.eval x]) ho hc (fun cs=>by rw [e1,e2]; simp [builtin]) ?_ (Post.same h vI hv)
  unfold Builtin.len_
  rw [jE hxx]
  show ((underlying t >>= _:Sem Value)).run P w=_
  rw [aa (am hu w)]; rfl
 ·exact hv.elim
theorem EZ {c:Call} {t e:TypeId} {x:Operand} {n:Nat} (ho:o.op=.call c) (hc:c.callee=.builtin .len) (ht:c.argTypes.toList=[t]) (hx:c.args.toList=[x])
 (hu:P.underlying t=some (.array n e)) (h:aw B m lh w) (hv:vcI B.w0 S sl lh pl K (.lenA n)):bE P o a w (Post B m lh K):=by
 have e1:c.argTypes=#[t]:=by rw [← Array.toList_inj,ht]
 have e2:c.args=#[x]:=by rw [← Array.toList_inj,hx]
 simp only [vcI] at hv
 refine cr (s:=Builtin.len_ #[t] o.type #[a.eval x]) ho hc (fun cs=>by rw [e1,e2]; simp [builtin]) ?_ (Post.same h vI hv)
 unfold Builtin.len_
 show ((underlying t >>= _:Sem Value)).run P w=_
 rw [aa (am hu w)]; rfl
theorem Ec {k:IntKind} {x y:Int} (w:World):(Builtin.max2 (.int k x) (.int k y)).run P w=.ok (.int k (max x y)) w:=by
 have:(if y > x then y else x)=max x y:=by
  split <;> omega
 simp only [Builtin.max2,this]; rfl
theorem CO {k:IntKind} {x y:Int} (w:World):(Builtin.min2 (.int k x) (.int k y)).run P w=.ok (.int k (min x y)) w:=by
 have:(if y < x then y else x)=min x y:=by
  split <;> omega
 simp only [Builtin.min2,this]; rfl
theorem EL {K':ab->Prop}:∀ (b:Bool) (ys:List ab) (vs:List Value) (x:ab) (u:Value) (w:World),af m ys vs->vrel m x u->mm2 b x ys K' ->
 ∃ r v,vrel m r v/\K' r/\(vs.foldlM (if b then Builtin.max2 else Builtin.min2) u:Sem Value).run P w=.ok v w
 | b,[],vs,x,u,w,hv,hx,hm=>by
   simp only [af] at hv; subst hv
   exact ⟨x,u,hx,by cases x <;> exact hm,rfl⟩
 | b,y::ys,vs,x,u,w,hv,hx,hm=>by
   simp only [af] at hv; obtain ⟨v,vs,rfl,hy,hv⟩:=hv
   unfold mm2 at hm
   split at hm
   ·rename_i e; cases e
   ·rename_i k p k' q ys' e
    cases e
    obtain ⟨rfl,hm⟩:=hm
    rw [dj hx,dj hy]
    obtain ⟨r,z,h1,h2,h3⟩:=EL b ys vs (.int k (if b then max p q else min p q)) (.int k (if b then max p q else min p q)) w hv vI hm
    refine ⟨r,z,h1,h2,?_⟩
    rw [List.foldlM_cons]
    cases b
    ·simp only [Bool.false_eq_true,if_false] at h3 ⊢; rw [aa (CO w)]; exact h3
    ·simp only [if_true] at h3 ⊢; rw [aa (Ec w)]; exact h3
   ·exact hm.elim
theorem Db {c:Call} {b:Bool} {x y:Operand} {xs:List Operand} (ho:o.op=.call c) (hc:c.callee=.builtin (if b then .max else .min)) (hx:c.args.toList=x::y::xs)
 (hs:af m sl a.tmps.toList) (h:aw B m lh w) (hv:vcI B.w0 S sl lh pl K (.mm b (aD x) ((y::xs).map aD))):bE P o a w (Post B m lh K):=by
 simp only [vcI] at hv
 obtain ⟨r,v,h1,h2,h3⟩:=EL (P:=P) b _ _ _ _ w (d8 hs (y::xs)) (au hs x) hv
 have e2:(c.args.map a.eval).toList=a.eval x::(y::xs).map a.eval:=by rw [Array.toList_map,hx]; rfl
 cases b
 ·refine cr (s:=Builtin.min_ c.argTypes o.type (c.args.map a.eval)) ho hc (fun cs=>rfl) ?_ (Post.same h h1 h2)
  unfold Builtin.min_; rw [e2]; exact h3
 ·refine cr (s:=Builtin.max_ c.argTypes o.type (c.args.map a.eval)) ho hc (fun cs=>rfl) ?_ (Post.same h h1 h2)
  unfold Builtin.max_; rw [e2]; exact h3
theorem uI {x:Option ab} {u:Option Value} {y d:Nat} {K':Nat->Prop} (w:World) (hx:match x,u with | none,none=>True | some x,some u=>vrel m x u | _,_=>False) (h:bnd x y d K') :
 ∃ n,K' n/\(u=none->n=d)/\∀ v code,u=some v->(Instr.sliceBound v y code).run P w=.ok n w:=by
 cases x with
 | none =>
   cases u with
   | none=>exact ⟨d,h,fun _=>rfl,fun v _ hv=>by cases hv⟩
   | some u=>exact hx.elim
 | some x =>
   cases u with
   | none=>exact hx.elim
   | some u =>
     simp only [bnd] at h
     split at h
     ·rename_i e; cases e
     ·rename_i k i e
      cases e
      obtain ⟨h1,h2,h3⟩:=h
      refine ⟨i.toNat,h3,fun e=>(by cases e),fun v code hv=>?_⟩
      cases hv
      rw [dj hx]
      unfold Instr.sliceBound
      rw [aa (a:=(k,i)) (w':=w) rfl]
      dsimp only
      rw [if_pos ⟨h1,h2⟩]; rfl
     ·exact h.elim
theorem ua (hs:af m sl a.tmps.toList) (x:Option Operand):match (x.map aD).map (arg sl),x.map a.eval with | none,none=>True | some x,some u=>vrel m x u | _,_=>False:=by
 cases x with
 | none=>trivial
 | some x=>exact au hs x
theorem ln {b:Bool} {n c:Nat} {lo hi mx:Option Operand} {K':Nat->Nat->Nat->Prop} (hmx:¬ (mx.isSome=true/\hi.isSome=false)) (hs:af m sl a.tmps.toList) (w:World)
 (h:bnd ((mx.map aD).map (arg sl)) c c fun mm=>bnd ((hi.map aD).map (arg sl)) mm n fun hh=>bnd ((lo.map aD).map (arg sl)) hh 0 fun l=>K' l hh mm) :
 ∃ l hh mm,K' l hh mm/\(Instr.sliceBounds b n c (lo.map a.eval) (hi.map a.eval) (mx.map a.eval)).run P w=.ok (l,hh,mm) w:=by
 obtain ⟨mm,h,m1,m2⟩:=uI (P:=P) w (ua hs mx) h
 obtain ⟨hh,h,h1,h2⟩:=uI (P:=P) w (ua hs hi) h
 obtain ⟨l,h,l1,l2⟩:=uI (P:=P) w (ua hs lo) h
 refine ⟨l,hh,mm,h,?_⟩
 unfold Instr.sliceBounds
 cases mx with
 | none =>
   obtain rfl:=m1 rfl
   cases hi with
   | none =>
     obtain rfl:=h1 rfl
     cases lo with
     | none=>obtain rfl:=l1 rfl; simp only [Option.map_none,pure_bind]; rfl
     | some x=>simp only [Option.map_none,Option.map_some,pure_bind]; rw [aa (l2 _ _ rfl)]; rfl
   | some y =>
     cases lo with
     | none=>obtain rfl:=l1 rfl; simp only [Option.map_none,Option.map_some,pure_bind]; rw [aa (h2 _ _ rfl)]; rfl
     | some x=>simp only [Option.map_none,Option.map_some,pure_bind]; rw [aa (h2 _ _ rfl),aa (l2 _ _ rfl)]; rfl
 | some z =>
   cases hi with
   | none=>exact (hmx ⟨rfl,rfl⟩).elim
   | some y =>
     cases lo with
     | none=>obtain rfl:=l1 rfl; simp only [Option.map_none,Option.map_some,pure_bind]; rw [aa (m2 _ _ rfl),aa (h2 _ _ rfl)]; rfl
     | some x=>simp only [Option.map_some]; rw [aa (m2 _ _ rfl),aa (h2 _ _ rfl),aa (l2 _ _ rfl)]; rfl
theorem kM {p:Option Ptr} {q:Option Addr} (h:bN m p q) (c:Prop) [Decidable c] (n:Nat):bN m (if c then p else p.map (Ptr.add · n)) (if c then q else q.map (·.add n)):=by
 split
 ·exact h
 ·cases p with
  | none=>simp only [bN] at h; subst h; rfl
  | some p=>obtain ⟨ad,rfl,h2⟩:=l8 h n; exact h2
theorem Fo {t e:TypeId} {x:Operand} {lo hi mx:Option Operand} {esz:Nat} (ho:o.op=.slice t x lo hi mx) (hmx:¬ (mx.isSome=true/\hi.isSome=false)) (hu:P.underlying t=some (.slice e)) (he:cv P e=some esz)
 (hs:af m sl a.tmps.toList) (h:aw B m lh w) (hv:vcI B.w0 S sl lh pl K (.slS esz (aD x) (lo.map aD) (hi.map aD) (mx.map aD))):bE P o a w (Post B m lh K):=by
 have hx:=au hs x
 simp only [vcI] at hv
 split at hv
 ·rename_i p n c hp
  rw [hp] at hx
  obtain ⟨q,hq,hpq⟩:=dM hx
  obtain ⟨l,hh,mm,hK,hrun⟩:=ln (P:=P) (b:=true) hmx hs w hv
  refine aB (s:=Instr.sliceAt t (a.eval x) (lo.map a.eval) (hi.map a.eval) (mx.map a.eval)) (v:=.slice (if mm=l then q else q.map (·.add (l * esz))) (hh - l) (mm - l)) (by simp only [execOp,ho]) ?_ (Post.same h ?_ hK)
  ·unfold Instr.sliceAt
   rw [aa (am hu w)]
   dsimp only
   unfold Instr.slice
   rw [aa (am hu w),hq]
   dsimp only
   rw [aa hrun]
   dsimp only
   rw [aa (bu he w)]; rfl
  ·simp only [vrel]; exact ⟨_,rfl,kM hpq _ _⟩
 ·exact hv.elim
theorem E8 {t e:TypeId} {x:Operand} {lo hi mx:Option Operand} {n esz:Nat} (ho:o.op=.slice t x lo hi mx) (hmx:¬ (mx.isSome=true/\hi.isSome=false)) (hu:P.underlying t=some (.array n e)) (he:cv P e=some esz)
 (hs:af m sl a.tmps.toList) (h:aw B m lh w) (hv:vcI B.w0 S sl lh pl K (.slA n esz (aD x) (lo.map aD) (hi.map aD) (mx.map aD))):bE P o a w (Post B m lh K):=by
 have hx:=au hs x
 simp only [vcI] at hv
 split at hv
 ·rename_i p hp
  rw [hp] at hx
  obtain ⟨q,hq,hpq⟩:=fh hx
  obtain ⟨l,hh,mm,hK,hrun⟩:=ln (P:=P) (b:=false) hmx hs w hv
  obtain ⟨ad,rfl,hpa⟩:=sT hpq
  refine aB (s:=Instr.sliceAt t (a.eval x) (lo.map a.eval) (hi.map a.eval) (mx.map a.eval)) (v:=.slice (some (if mm=l then ad else ad.add (l * esz))) (hh - l) (mm - l)) (by simp only [execOp,ho]) ?_ (Post.same h ?_ hK)
  ·unfold Instr.sliceAt
   rw [aa (am hu w)]
   dsimp only
   rw [hq,aa (a:=ad) (w':=w) rfl,aa hrun]
   dsimp only
   rw [aa (bu he w)]; rfl
  ·simp only [vrel]
   refine ⟨_,rfl,?_⟩
   have:=kM hpa (mm=l) (l * esz)
   by_cases e:mm=l
   ·simpa [e] using this
   ·simpa [e] using this
 ·exact hv.elim
theorem Gw {t:TypeId} {x:Operand} {lo hi:Option Operand} (ho:o.op=.slice t x lo hi none) (hu:P.underlying t=some .string)
 (hs:af m sl a.tmps.toList) (h:aw B m lh w) (hv:vcI B.w0 S sl lh pl K (.slT (aD x) (lo.map aD) (hi.map aD))):bE P o a w (Post B m lh K):=by
 have hx:=au hs x
 simp only [vcI] at hv
 split at hv
 ·rename_i s hp
  rw [hp] at hx
  obtain ⟨l,hh,mm,hK,hrun⟩:=ln (P:=P) (b:=false) (n:=s.size) (c:=s.size) (mx:=none) (K':=fun l h _=>K (.str (s.extract l h)) lh) (by simp) hs w hv
  refine aB (s:=Instr.sliceAt t (a.eval x) (lo.map a.eval) (hi.map a.eval) none) (v:=.string (s.extract l hh)) (by simp only [execOp,ho]; rfl) ?_ (Post.same h vS hK)
  unfold Instr.sliceAt
  rw [aa (am hu w)]
  dsimp only
  unfold Instr.slice
  rw [aa (am hu w),jE hx]
  simp only [Option.isSome_none,Bool.false_eq_true,if_false]
  rw [Option.map_none] at hrun
  rw [aa hrun]; rfl
 ·exact hv.elim
end
end Go.Sx
namespace Go.Sx
section
variable {P:Program} {B:bm} {S:FuncId->bf} {m:ao} {sl:List ab} {lh:List ac} {w:World} {a:Act} {o:Oper} {pl:Option Nat} {K:ab->List ac->Prop}
theorem rD (z:List Value):∀ n,(List.range (n * z.length)).map (fun i=>z[i % z.length]!)=(List.replicate n z).flatten
 | 0=>by simp
 | n + 1=>by
   rw [List.replicate_succ,List.flatten_cons,← rD z n,Nat.succ_mul,Nat.add_comm,List.range_add,List.map_append]
   congr 1
   ·apply List.ext_getElem
    ·simp
    ·intro i h1 h2
     simp at h1
     simp [Nat.mod_eq_of_lt h1,h1]
   ·rw [List.map_map]
    apply List.map_congr_left
    intro i _
    simp
theorem iz (z:Array Value) (n:Nat):(Builtin.zeroCells z n).toList=(List.replicate n z.toList).flatten:=by
 unfold Builtin.zeroCells
 rw [Array.toList_map]
 have:(Array.range (n * z.size)).toList=List.range (n * z.size):=by simp
 rw [this,← rD,Array.length_toList]
 apply List.map_congr_left
 intro x _
 rw [Array.getElem!_eq_getD,List.getElem!_eq_getElem?_getD,Array.getElem?_toList,Array.getD_eq_getD_getElem?]
theorem cZ {z:List ab} {vs:List Value} (h:af m z vs):∀ n,af m (List.replicate n z).flatten (List.replicate n vs).flatten
 | 0=>by simp [af]
 | n+1=>by simp only [List.replicate_succ,List.flatten_cons]; exact bC h (cZ h n)
theorem io (h:aw B m lh w) {p:Option Ptr} {q:Option Addr} (hq:bN m p q) {size n k c:Nat} {xs:List ab} (hx:cellsOf B.w0 lh p (n * size)=some xs) :
 ∃ vs,(Builtin.firstCells size n (.slice q k c)).run P w=.ok vs w/\af m xs vs.toList:=by
 cases p with
 | none =>
   simp only [bN] at hq; subst hq
   simp only [cellsOf,Option.some.injEq] at hx; subst hx
   exact ⟨#[],rfl,by simp [af]⟩
 | some p =>
   obtain ⟨ad,vs,rfl,hrun,hr⟩:=nL (P:=P) h hq hx
   exact ⟨vs,hrun,hr⟩
theorem hN {t u e e' ty:TypeId} {n c k c2 sz:Nat} {ps qs:Option Addr} {nv:Array Value} {w':World} (hu:P.underlying t=some (.slice e)) (hu':P.underlying u=some (.slice e')) (hsz:cv P e=some sz)
 (hcap:n+k<=c) (hn:(Builtin.firstCells sz k (.slice qs k c2)).run P w=.ok nv w)
 (hst:(match ps with | some ad=>storeCells (ad.add (n * sz)) nv.toList | none=>pure ()).run P w=.ok () w') :
 (Builtin.append_ #[t,u] ty #[.slice ps n c,.slice qs k c2]).run P w=.ok (.slice ps (n+k) c) w':=by
 simp only [Builtin.append_,List.getElem?_toArray,List.getElem?_cons_zero,List.getElem?_cons_succ]
 rw [aa (am hu w)]
 dsimp only
 rw [aa (bu hsz w),aa (am hu' w),pure_bind]
 simp only [Bool.false_eq_true,if_false,Builtin.lenOf,pure_bind,Bool.not_false,if_true]
 rw [if_pos hcap,aa hn]
 cases ps with
 | none =>
   have hst':Result.ok () w=Result.ok () w':=hst
   cases hst'
   rfl
 | some ad =>
   simp only at hst ⊢
   rw [aa hst]; rfl
theorem pg {t u e e' ty:TypeId} {n c k c2:Nat} {ps qs:Option Addr} {ov nv:Array Value} {i:TypeInfo} {z:Value} (hu:P.underlying t=some (.slice e)) (hu':P.underlying u=some (.slice e')) (hi:P.info? e=some i)
 (hz:i.zero=some z) (hcap:¬ n+k<=c) (hbytes:Builtin.nextslicecap (n+k) c * i.bytes<=2 ^ 48) (hbig:((n+k:Nat):Int)<=IntKind.i64.max ∨ i.bytes ≠ 0)
 (hov:(Builtin.firstCells i.size n (.slice ps n c)).run P { w with drawn:=w.drawn+1 }=.ok ov { w with drawn:=w.drawn+1 })
 (hn:(Builtin.firstCells i.size k (.slice qs k c2)).run P { w with drawn:=w.drawn+1 }=.ok nv { w with drawn:=w.drawn+1 }) :
 ∃ nc,n+k<=nc/\(Builtin.append_ #[t,u] ty #[.slice ps n c,.slice qs k c2]).run P w =
  .ok (.slice (some ⟨w.heap.size,0,none⟩) (n+k) nc) { w with drawn:=w.drawn+1,heap:=w.heap.push (.cells (ov++nv++Builtin.zeroCells z.cells (nc - (n+k))) e (0,0)) }:=by
 have hsz:cv P e=some i.size:=by simp [cv,hi]
 refine ⟨(Question.appendCap (n+k) c e).cut (w.tape w.drawn (.appendCap (n+k) c e)),by simp only [Question.cut]; omega,?_⟩
 generalize hnc:(Question.appendCap (n+k) c e).cut (w.tape w.drawn (.appendCap (n+k) c e))=nc
 have hch:(choose (.appendCap (n+k) c e)).run P w=.ok nc { w with drawn:=w.drawn+1 }:=by rw [← hnc]; rfl
 have hask:(askRoom (nc * i.bytes)).run P { w with drawn:=w.drawn+1 }=.ok () { w with drawn:=w.drawn+1 }:=by
  unfold askRoom; split <;> rfl
 have hzv:(zeroValue e).run P { w with drawn:=w.drawn+1 }=.ok z { w with drawn:=w.drawn+1 }:=by
  unfold zeroValue; rw [aa (cj hi _)]; simp only [hz]; rfl
 simp only [Builtin.append_,List.getElem?_toArray,List.getElem?_cons_zero,List.getElem?_cons_succ]
 rw [aa (am hu w)]
 dsimp only
 rw [aa (bu hsz w),aa (am hu' w),pure_bind]
 simp only [Bool.false_eq_true,if_false,Builtin.lenOf,pure_bind,Bool.not_false,if_true,false_or]
 rw [if_neg hcap,aa (cj hi w),if_neg (by rintro ⟨h1,h2⟩; rcases hbig with h | h <;> omega),aa (cj hi w),if_neg (by omega)]
 rw [aa hch,aa (cj hi _),aa hask,aa hov,aa hn,aa hzv,aa (gn _)]
 rfl
theorem Fk {c:Call} {t u e e':TypeId} {s x:Operand} {i:TypeInfo} {z:Value} (ho:o.op=.call c) (hc:c.callee=.builtin .append) (ht:c.argTypes.toList=[t,u]) (hx:c.args.toList=[s,x])
 (hu:P.underlying t=some (.slice e)) (hu':P.underlying u=some (.slice e')) (hi:P.info? e=some i) (hz:i.zero=some z) (hs:af m sl a.tmps.toList) (h:aw B m lh w)
 (hv:vcI B.w0 S sl lh pl K (.app e i.size i.bytes (z.cells.toList.map aS) (aD s) (aD x))):bE P o a w (Post B m lh K):=by
 have e1:c.argTypes=#[t,u]:=by rw [← Array.toList_inj,ht]
 have e2:c.args=#[s,x]:=by rw [← Array.toList_inj,hx]
 have hsz:cv P e=some i.size:=by simp [cv,hi]
 have hss:=au hs s
 have hxx:=au hs x
 simp only [vcI] at hv
 generalize arg sl (aD s)=az at hv hss
 generalize arg sl (aD x)=ax at hv hxx
 unfold mV at hv
 split at hv
 ·rename_i p n c' q k c''
  obtain ⟨ps,hps,hpp⟩:=dM hss
  obtain ⟨qs,hqs,hqq⟩:=dM hxx
  obtain ⟨new,hnew,hin,hgrow⟩:=hv
  have hpre:∀ {v:Value} {w':World},(Builtin.append_ #[t,u] o.type #[.slice ps n c',.slice qs k c'']).run P w=.ok v w'->Post B m lh K v w'->bE P o a w (Post B m lh K):=fun hR hP =>
   cr (s:=Builtin.append_ #[t,u] o.type #[a.eval s,a.eval x]) ho hc (fun cs=>by rw [e1,e2]; simp [builtin]) (by rw [hps,hqs]; exact hR) hP
  by_cases hcap:n+k<=c'
  ·replace hin:=hin hcap
   obtain ⟨nv,hnrun,hnr⟩:=io (P:=P) (k:=k) (c:=c'') h hqq hnew
   split at hin
   ·rename_i b off
    obtain ⟨cs,ty,hk,hone,hle,hK⟩:=hin
    obtain ⟨b',hb,rfl⟩:=hpp
    have hones:∀ y ∈ nv.toList,iE y=true:=by
     have:vrel m (.agg new) (.agg nv):=by simp only [vrel]; exact ⟨_,rfl,hnr⟩
     exact (jc this (by simpa [ab.flat] using hone)).2
    obtain ⟨w',hrun,hrel⟩:=aw.stores (P:=P) (off:=off+n * i.size) hb new nv.toList cs lh w 0 h hk (by omega) hnr hones
    refine hpre (hN (w':=w') hu hu' hsz hcap hnrun ?_) (Post.store hk hrel ?_ hK)
    ·simp only; rw [iB]; exact hrun
    ·simp only [vrel]; exact ⟨_,rfl,_,hb,rfl⟩
   ·simp only [bN] at hpp; subst hpp
    exact hpre (hN (w':=w) hu hu' hsz hcap hnrun rfl) (Post.same h (by simp only [vrel]; exact ⟨_,rfl,rfl⟩) hin)
   ·rename_i ad
    obtain ⟨rfl,hK⟩:=hin
    simp only [af] at hnr
    simp only [bN] at hpp; subst hpp
    refine hpre (hN (w':=w) hu hu' hsz hcap hnrun ?_) (Post.same h (by simp only [vrel]; exact ⟨_,rfl,rfl⟩) hK)
    simp only; rw [hnr]; unfold storeCells; rfl
  ·obtain ⟨old,hold,hbytes,hbig,hK⟩:=hgrow (by omega)
   have hdr:=h.drew (w.drawn+1)
   obtain ⟨nv,hnrun,hnr⟩:=io (P:=P) (k:=k) (c:=c'') hdr hqq hnew
   obtain ⟨ov,horun,hor⟩:=io (P:=P) (k:=n) (c:=c') hdr hpp hold
   obtain ⟨nc,hnc,hrun⟩:=pg (P:=P) (ty:=o.type) hu hu' hi hz hcap hbytes hbig horun hnrun
   have hpl:=hK nc hnc
   have hall:af m (old++new++(List.replicate (nc - (n+k)) (z.cells.toList.map aS)).flatten) (ov++nv++Builtin.zeroCells z.cells (nc - (n+k))).toList:=by
    rw [Array.toList_append,Array.toList_append,iz]
    exact bC (bC hor hnr) (cZ (bd m z.cells.toList) _)
   obtain ⟨p',m',lh',g1,g2,g3,g4⟩:=eh hdr hall hpl
   exact hpre hrun ⟨_,m',lh',by simp only [vrel]; exact ⟨_,rfl,_,g1,rfl⟩,g2,g3,g4⟩
 ·exact hv.elim
theorem r8 {z:List Value} (h:z.all iE=true) (n:Nat):∀ u ∈ (List.replicate n z).flatten,iE u=true:=fun u hu=>by
 obtain ⟨l,hl,hu⟩:=List.mem_flatten.1 hu
 rw [(List.mem_replicate.1 hl).2] at hu
 exact List.all_eq_true.1 h u hu
theorem FA {c:Call} {t e:TypeId} {x:Operand} {i:TypeInfo} {z:Value} (ho:o.op=.call c) (hc:c.callee=.builtin .clear) (ht:c.argTypes.toList=[t]) (hx:c.args.toList=[x])
 (hu:P.underlying t=some (.slice e)) (hi:P.info? e=some i) (hz:i.zero=some z) (h1:z.cells.size=i.size) (h2:z.cells.toList.all iE=true) (hs:af m sl a.tmps.toList) (h:aw B m lh w)
 (hv:vcI B.w0 S sl lh pl K (.clr i.size (z.cells.toList.map aS) (aD x))):bE P o a w (Post B m lh K):=by
 have e1:c.argTypes=#[t]:=by rw [← Array.toList_inj,ht]
 have e2:c.args=#[x]:=by rw [← Array.toList_inj,hx]
 have hxx:=au hs x
 simp only [vcI] at hv
 split at hv
 ·rename_i k off n c' hp
  rw [hp] at hxx
  obtain ⟨q,hq,hpq⟩:=dM hxx
  obtain ⟨b,hb,rfl⟩:=hpq
  obtain ⟨cs,ty,hk,hn,hle,hK⟩:=hv
  have hrel:=cZ (m:=m) (bd m z.cells.toList) n
  have hl:=bo hrel
  obtain ⟨w',hrun,hrel'⟩:=aw.stores (P:=P) (off:=off) hb (List.replicate n (z.cells.toList.map aS)).flatten (List.replicate n z.cells.toList).flatten cs lh w 0 h hk (by rw [Nat.add_zero,← hl]; simp; rw [h1]; omega) hrel (r8 h2 n)
  refine cr (s:=Builtin.clear_ #[t] o.type #[a.eval x]) (w':=w') ho hc (fun cs=>by rw [e1,e2]; simp [builtin]) ?_ (Post.store (r:=.tup []) (v:=.tuple #[]) hk hrel' (by simp [vrel,af]) hK)
  unfold Builtin.clear_
  rw [hq]
  have hzv:(zeroValue e).run P w=.ok z w:=by
   unfold zeroValue; rw [aa (cj hi _)]; simp only [hz]; rfl
  obtain ⟨n,rfl⟩:∃ n',n=n'+1:=⟨n - 1,by omega⟩
  simp only [List.getElem?_toArray,List.getElem?_cons_zero]
  rw [aa (am hu w)]
  show (do let zv ← zeroValue e; storeCells ⟨b,off,none⟩ (Builtin.zeroCells zv.cells (n+1)).toList; pure (Value.tuple #[]):Sem Value).run P w=_
  rw [aa hzv,iz,aa hrun]
  rfl
 ·rename_i p n c' hnp hp
  rw [hp] at hxx
  obtain ⟨q,hq,hpq⟩:=dM hxx
  obtain ⟨rfl,hK⟩:=hv
  refine cr (s:=Builtin.clear_ #[t] o.type #[a.eval x]) ho hc (fun cs=>by rw [e1,e2]; simp [builtin]) ?_ (Post.same h (by simp [vrel,af]:vrel m (.tup []) (.tuple #[])) hK)
  unfold Builtin.clear_
  rw [hq]
  simp only [List.getElem?_toArray,List.getElem?_cons_zero]
  rw [aa (am hu w)]
  cases q <;> rfl
 ·exact hv.elim
theorem EF {c : Call} {f : FuncId} {fn : Func} (hS : ∀ f, (S f).Sound P f) (ho : o.op = .call c) (hc : c.callee = .value (.func f)) (hf : P.funcs[f]? = some fn) (hn : (fn.name == "runtime.NumGoroutine") = false) (hb : fn.body.isNone = false)
 (hs:af m sl a.tmps.toList) (h:aw B m lh w) (hv:vcI B.w0 S sl lh pl K (.call f (c.args.toList.map aD))):bE P o a w (Post B m lh K):=by
 simp only [vcI] at hv
 obtain ⟨_,hcall⟩:=hS f B m lh w _ _ K h (d8 hs c.args.toList) hv
 refine .inr (.inr ⟨f,((c.args.toList.map a.eval)).toArray,?_,hcall.mono fun e w' ⟨v,r,m',lh',h1,h2,h3,h4,h5⟩=>⟨v,h1,r,m',lh',h2,h3,h4,h5⟩⟩)
 simp only [execOp,ho]
 rw [aa (a:={ target:=.fn (.func f) #[],args:=#[]++c.args.map a.eval }) (w':=w) (by simp only [resolve,hc,Act.eval]; rfl)]
 simp only [invoke,callFunc]
 rw [aa (a:=P) (w':=w) rfl,hf]
 simp only [hn,hb,Bool.false_eq_true,if_false]
 have:#[]++c.args.map a.eval++#[]=(c.args.toList.map a.eval).toArray:=by
  apply Array.toList_inj.1; simp
 rw [this]; rfl
theorem BX {c:Call} {x:Operand} (hS:∀ f,(S f).Sound P f) (ho:o.op=.call c) (hc:c.callee=.value x)
 (hs:af m sl a.tmps.toList) (h:aw B m lh w) (hv:vcI B.w0 S sl lh pl K (.callv (aD x) (c.args.toList.map aD))):bE P o a w (Post B m lh K):=by
 have hx:=au hs x
 simp only [vcI] at hv
 split at hv
 ·rename_i f xs ys hp
  rw [hp] at hx
  simp only [vrel] at hx
  obtain ⟨us,vs,hq,h1,h2⟩:=hx
  obtain ⟨⟨fn,hf,hn,hb⟩,hcall⟩:=hS f B m lh w _ _ K h (bC (bC h1 (d8 hs c.args.toList)) h2) hv
  refine .inr (.inr ⟨f,_,?_,hcall.mono fun e w' ⟨v,r,m',lh',h1,h2,h3,h4,h5⟩=>⟨v,h1,r,m',lh',h2,h3,h4,h5⟩⟩)
  simp only [execOp,ho]
  rw [aa (a:={ target:=.fn (.func f) vs,args:=us++c.args.map a.eval }) (w':=w) (by simp only [resolve,hc,hq]; rfl)]
  simp only [invoke,callFunc]
  rw [aa (a:=P) (w':=w) rfl,hf]
  simp only [hn,hb,Bool.false_eq_true,if_false]
  have:us++c.args.map a.eval++vs=(us.toList++c.args.toList.map a.eval++vs.toList).toArray:=by
   apply Array.toList_inj.1; simp
  rw [this]; rfl
 ·exact hv.elim
theorem Gl {t e:TypeId} {k k':IntKind} {n:Int} {i:TypeInfo} {z:Value} (ho:o.op=.makeSlice t (.const (.int k n)) (.const (.int k' n))) (hu:P.underlying t=some (.slice e)) (hi:P.info? e=some i) (hz:i.zero=some z)
 (hn:0 < n) (hn':n<=1000) (hb:(i.bytes:Int) * n<=2 ^ 40) (h0:i.size ≠ 0) (h:aw B m lh w)
 (hv:vcI B.w0 S sl lh pl K (.mks e n.toNat (((List.range (n.toNat * i.size)).map (z.cells[· % z.cells.size]!)).map aS))):bE P o a w (Post B m lh K):=by
 have hsz:cv P e=some i.size:=by simp [cv,hi]
 simp only [vcI] at hv
 obtain ⟨p,m',lh',g1,g2,g3,g4⟩:=eh h (vs:=((List.range (n.toNat * i.size)).map (z.cells[· % z.cells.size]!)).toArray) (by simpa using bd m ((List.range (n.toNat * i.size)).map (z.cells[· % z.cells.size]!))) hv
 refine aB (s:=Instr.makeSlice t (.int k n) (.int k' n)) (v:=.slice (some ⟨w.heap.size,0,none⟩) n.toNat n.toNat) (by simp only [execOp,ho]; rfl) ?_ ⟨_,m',lh',by simp only [vrel]; exact ⟨_,rfl,_,g1,rfl⟩,g2,g3,g4⟩
 have hw:IntKind.i64.wrap n=n:=by
  have h1:n % (2 ^ 64:Int)=n:=Int.emod_eq_of_lt (by omega) (by omega)
  simp only [IntKind.wrap,IntKind.bits,IntKind.signed,h1]
  rw [if_neg (by simp; omega)]
 have hzv:(zeroValue e).run P w=.ok z w:=by
  unfold zeroValue; rw [aa (cj hi _)]; simp only [hz]; rfl
 have hask:(askRoom (n.toNat * i.bytes)).run P w=.ok () w:=by
  unfold askRoom; split <;> rfl
 unfold Instr.makeSlice
 rw [aa (am hu w)]
 dsimp only
 rw [aa (a:=n) (w':=w) rfl,aa (a:=n) (w':=w) rfl,aa (cj hi w)]
 simp only [hw]
 rw [if_neg (by simp; omega),aa hask,aa (bu hsz w)]
 have hne:n.toNat * i.size ≠ 0:=Nat.mul_ne_zero (by omega) h0
 rw [if_neg hne,aa hzv,pure_bind,aa (gn w)]
 have e:Array.map (fun x=>z.cells[x % z.cells.size]!) (Array.range (n.toNat * i.size))=(List.map (fun x=>z.cells[x % z.cells.size]!) (List.range (n.toNat * i.size))).toArray:=by
  apply Array.toList_inj.1; simp
 rw [e]; rfl
theorem j0 {eqs:List TypeId} {i:IOp} (hS:∀ f,(S f).Sound P f) (hE:∀ t ∈ eqs,cm P t) (hc:dU P eqs o=some i) (hs:af m sl a.tmps.toList) (h:aw B m lh w) (hv:vcI B.w0 S sl lh pl K i) :
 bE P o a w (Post B m lh K):=by
 have hc':=hc
 cases ho:o.op <;> simp only [dU,ho] at hc <;> try (cases hc; done)
 case move x=>cases hc; exact Al (.inl ho) hs h hv
 case assign x=>cases hc; exact Al (.inr ho) hs h hv
 case pick c x y=>cases hc; exact Cl ho hs h hv
 case alloc t =>
  simp only [Option.map_eq_some_iff] at hc
  obtain ⟨z,hz,rfl⟩:=hc
  exact Fq0 ho hz h hv
 case box t x=>cases hc; exact FZ ho hs h hv
 case build t ps=>exact BJ ho hc' hs h hv
 case buildSlice t n ps=>exact GE ho hc' hs h hv
 case load t x=>exact HI ho hc' hs h hv
 case store t x y =>
  simp only [Option.map_eq_some_iff] at hc
  obtain ⟨n,hn,rfl⟩:=hc
  exact I0 ho hn hs h hv
 case nilCheck x=>cases hc; exact JN ho hs h hv
 case binOp op t x y u =>
  split at hc
  ·rename_i hu; cases hc; exact zt (neg:=false) rfl ho hu hs h hv
  ·rename_i hu; cases hc; exact zt (neg:=true) rfl ho hu hs h hv
  ·split at hc
   ·rename_i hm; simp only [Option.map_eq_some_iff] at hc; obtain ⟨n,hn,rfl⟩:=hc; exact po (neg:=false) hn rfl ho (hE t (by simpa using hm)) hs h hv
   ·cases hc
  ·split at hc
   ·rename_i hm; simp only [Option.map_eq_some_iff] at hc; obtain ⟨n,hn,rfl⟩:=hc; exact po (neg:=false) hn rfl ho (hE t (by simpa using hm)) hs h hv
   ·cases hc
  ·split at hc
   ·rename_i hm; simp only [Option.map_eq_some_iff] at hc; obtain ⟨n,hn,rfl⟩:=hc; exact po (neg:=true) hn rfl ho (hE t (by simpa using hm)) hs h hv
   ·cases hc
  ·split at hc
   ·rename_i hm; simp only [Option.map_eq_some_iff] at hc; obtain ⟨n,hn,rfl⟩:=hc; exact po (neg:=true) hn rfl ho (hE t (by simpa using hm)) hs h hv
   ·cases hc
  ·cases hc; exact zX ho hs h hv
  ·cases hc; exact zX ho hs h hv
  ·rename_i hu
   split at hc
   ·rename_i hy; cases hc; exact zT (neg:=false) rfl ho hu hy hs h hv
   ·cases hc
  ·rename_i hu
   split at hc
   ·rename_i hy; cases hc; exact zT (neg:=true) rfl ho hu hy hs h hv
   ·cases hc
  ·cases hc
 case unOp op t x=>cases hc; exact JQ ho hs h hv
 case convert s d x =>
  split at hc
  ·rename_i ds k h1 h2; cases hc; exact Em ho h1 h2 hs h hv
  ·cases hc
 case makeFunc f xs ys=>cases hc; exact E9 ho hs h hv
 case fieldAddr t x j =>
  split at hc
  ·rename_i fs hu
   split at hc
   ·rename_i f hf
    split at hc
    ·rename_i n hn
     split at hc
     ·cases hc
     ·rename_i hn0; cases hc; exact Iz ho hu hf hn hn0 hs h hv
    ·cases hc
   ·cases hc
  ·cases hc
 case field t x j =>
  split at hc
  ·rename_i fs hu
   split at hc
   ·rename_i f hf
    simp only [Option.map_eq_some_iff] at hc
    obtain ⟨n,hn,rfl⟩:=hc
    exact FO ho hu hf hn hs h hv
   ·cases hc
  ·cases hc
 case indexAddr t x ix =>
  split at hc
  ·rename_i n e hu
   simp only [Option.map_eq_some_iff] at hc
   obtain ⟨n,hn,rfl⟩:=hc
   exact Fl ho hu hn hs h hv
  ·rename_i e hu
   simp only [Option.map_eq_some_iff] at hc
   obtain ⟨n,hn,rfl⟩:=hc
   exact FE ho hu hn hs h hv
  ·cases hc
 case index t x ix =>
  split at hc
  ·rename_i n e hu
   split at hc
   ·rename_i s ag h1 h2; cases hc; exact Ft ho hu h1 h2 hs h hv
   ·cases hc
  ·rename_i hu; cases hc; exact Fy ho hu hs h hv
  ·cases hc
 case extract x j=>cases hc; exact GF ho hs h hv
 case slice t x lo hi mx =>
  split at hc
  ·cases hc
  ·rename_i hmx
   have hmx':¬ (mx.isSome=true/\hi.isSome=false):=by simpa using hmx
   split at hc
   ·rename_i e hu
    simp only [Option.map_eq_some_iff] at hc
    obtain ⟨n,hn,rfl⟩:=hc
    exact Fo ho hmx' hu hn hs h hv
   ·rename_i n e hu
    simp only [Option.map_eq_some_iff] at hc
    obtain ⟨n,hn,rfl⟩:=hc
    exact E8 ho hmx' hu hn hs h hv
   ·rename_i hu
    split at hc
    ·cases hc
    ·rename_i hm
     cases mx with
     | none=>cases hc; exact Gw ho hu hs h hv
     | some x=>simp at hm
   ·cases hc
 case makeSlice t x y =>
  unfold Aa at hc
  split at hc
  ·rename_i k n k' n' e hu
   split at hc
   ·rename_i i hi
    split at hc
    ·rename_i z hz
     split at hc
     ·rename_i hcond
      simp only [Bool.and_eq_true,decide_eq_true_eq,bne_iff_ne] at hcond
      obtain ⟨⟨⟨⟨rfl,h1⟩,h2⟩,h3⟩,h4⟩:=hcond
      cases hc
      exact Gl ho hu hi hz h1 h2 h3 h4 h hv
     ·cases hc
    ·cases hc
   ·cases hc
  ·cases hc
 case call c =>
  split at hc
  ·rename_i f hcal
   split at hc
   ·rename_i fn hf
    split at hc
    ·cases hc
    ·rename_i hcond
     simp only [Bool.or_eq_true,not_or,Bool.not_eq_true] at hcond
     cases hc
     exact EF hS ho hcal hf hcond.1 hcond.2 hs h hv
   ·cases hc
  ·rename_i x hcal
   cases hc
   exact BX hS ho hcal hs h hv
  ·rename_i b hcal
   unfold oU at hc
   split at hc
   ·rename_i t x ht hx
    split at hc
    ·rename_i e hu; cases hc; exact Gu ho hcal ht hx hu hs h hv
    ·rename_i hu; cases hc; exact CA ho hcal ht hx hu hs h hv
    ·rename_i n e hu; cases hc; exact EZ ho hcal ht hx hu h hv
    ·cases hc
   ·rename_i x y xs hx; cases hc; exact Db (b:=true) ho hcal hx hs h hv
   ·rename_i x y xs hx; cases hc; exact Db (b:=false) ho hcal hx hs h hv
   ·rename_i t u s x ht hx
    split at hc
    ·rename_i e e' hu hu'
     split at hc
     ·rename_i i hi
      split at hc
      ·rename_i z hz
       split at hc
       ·cases hc
        exact Fk ho hcal ht hx hu hu' hi hz hs h hv
       ·cases hc
      ·cases hc
     ·cases hc
    ·cases hc
   ·rename_i t x ht hx
    split at hc
    ·rename_i e hu
     split at hc
     ·rename_i i hi
      split at hc
      ·rename_i z hz
       split at hc
       ·rename_i hcond
        simp only [Bool.and_eq_true,decide_eq_true_eq] at hcond
        cases hc
        exact FA ho hcal ht hx hu hi hz hcond.1 hcond.2 hs h hv
       ·cases hc
      ·cases hc
     ·cases hc
    ·cases hc
   ·cases hc
  ·cases hc
end
end Go.Sx
namespace Go.Sx
structure SOp where
 dst:Option Nat
 op:IOp
 guard:Option (Nat × Bool)
inductive Ex where
 | normal
 | exit (id:Nat)
 | ret
def cA (sl:List ab) (d:Option Nat) (v:ab):List ab :=
 match d with
 | some d=>sl.set d v
 | none=>sl
def cM (w0:World) (S:FuncId->bf):List SOp->List ab->List ac->(List ab->List ac->Prop)->Prop
 | [],sl,lh,K=>K sl lh
 | o :: rest,sl,lh,K =>
   match o.guard with
   | none=>vcI w0 S sl lh none (fun v lh'=>cM w0 S rest (cA sl o.dst v) lh' K) o.op
   | some (d,want) =>
     match sl.getD d .any with
     | .bool b=>(b=want->vcI w0 S (sl.set d (.bool want)) lh none (fun v lh'=>cM w0 S rest (cA (sl.set d (.bool want)) o.dst v) lh' K) o.op) /\
        (b=!want->cM w0 S rest (cA (sl.set d (.bool (!want))) o.dst (.tup [])) lh K)
     | .tup vs=>cM w0 S rest (cA (sl.set d (.tup vs)) o.dst (.tup [])) lh K
     | .int ..=>cM w0 S rest (cA sl o.dst (.tup [])) lh K
     | _=>False
def fV (P:Program) (eqs:List TypeId) (ops:Array Oper) (o:Oper):Option SOp :=
 match dU P eqs o,o.guard with
 | some i,none=>some ⟨o.dst,i,none⟩
 | some i,some (j,want)=>match (ops[j]?).bind (·.dst) with
   | some d=>some ⟨o.dst,i,some (d,want)⟩
   | none=>none
 | none,_=>none
def bg (P:Program) (eqs:List TypeId) (ops:Array Oper):List Oper->Option (List SOp)
 | []=>some []
 | o::l=>match fV P eqs ops o,bg P eqs ops l with
   | some x,some xs=>some (x::xs)
   | _,_=>none
structure Open (F:Fence):Prop where
 fn:∀ f,F.fn f
 depth:F.depth=none
 alive:F.alive=false
theorem Open.fenced {F:Fence} (h:Open F) (P:Program) (mc:Machine):mc.fenced P F:=fun g _ =>
 ⟨fun e=>(by rw [h.alive] at e; cases e),.inl (h.fn _),fun _ _=>h.fn _,fun d hd=>by rw [h.depth] at hd; cases hd⟩
theorem Open.steps {F:Fence} (h:Open F) {P:Program} {a b:Machine}:StepsIn (Machine.fenced P F) P a b ↔ Steps P a b :=
 ⟨StepsIn.steps,fun k=>(StepsIn.of_steps k).mono fun mc _=>h.fenced P mc⟩
theorem Open.calls {F:Fence} (h:Open F) {n:Nat} {P:Program} {f:FuncId} {args:Array Value} {w:World} {R:Ending->World->Prop} (hc:Calls P f args w R):CallsIn F n P f args w R :=
 ⟨h.fn f,fun cs _=>let ⟨e,w',fr,r,s,x⟩:=hc cs; ⟨e,w',fr,r,by cases e with
   | returned v=>exact h.steps.2 s
   | panicked c=>exact h.steps.2 s
   | outgrown=>exact s,x⟩⟩
theorem sP:Open Fence.wide:=⟨fun _=>trivial,rfl,rfl⟩
section
variable {P:Program} {B:bm} {S:FuncId->bf} {eqs:List TypeId} {F:Fence} {n:Nat} {ops:Array Oper}
theorem sh {o:Oper} {i:IOp} (hc:dU P eqs o=some i) (r:Option Nat) (ρ:Operand->Value):o.semAt r ρ=execOp ρ o:=by
 unfold Oper.semAt
 split
 ·rename_i l d c ho
  simp only [dU,ho] at hc
  cases hc
 ·rfl
def gb (B:bm) (m:ao) (sl:List ab) (lh:List ac) (a:Act) (w:World):Prop:=af m sl a.tmps.toList/\a.defers=B.ds/\aw B m lh w
theorem lK (a:Act) (d:Option Tmp) (v:Value):(a.put d v).tmps.toList=match d with | some d=>a.tmps.toList.set d v | none=>a.tmps.toList:=by
 cases d <;> simp [Act.put]
theorem gb.put {m m':ao} {sl:List ab} {lh lh':List ac} {a:Act} {w w':World} (h:gb B m sl lh a w) (hm:m.le m') (h':aw B m' lh' w') (d:Option Nat) {r:ab} {v:Value} (hr:vrel m' r v) :
 gb B m' (cA sl d r) lh' (a.put d v) w':=by
 refine ⟨?_,by cases d <;> exact h.2.1,h'⟩
 rw [lK]
 cases d with
 | none=>exact bl hm _ _ h.1
 | some d=>exact ej d (bl hm _ _ h.1) hr
theorem d5 (hF:Open F) {o:Oper} {i:IOp} (hc:dU P eqs o=some i) {a:Act} {w:World} {R:Value->World->Prop} {next:Act->World->Prop} {Q:Exit->Act->World->Prop}
 (h:bE P o a w R) (hn:∀ v w',R v w'->next (a.put o.dst v) w'):o.wpIn F n P a w next Q:=by
 refine ⟨fun f _=>hF.fn f,?_⟩
 rw [sh hc]
 rcases h with ⟨v,w',h1,h2⟩ | ⟨w',h1,h2⟩ | ⟨f,args,h1,h2⟩
 ·rw [h1]; exact hn _ _ h2
 ·rw [h1]; exact hn _ _ h2
 ·rw [h1]
  refine ⟨fun e=>(by rw [hF.depth] at e; cases e),hF.calls (h2.mono fun e w' ⟨v,he,hR⟩=>?_)⟩
  subst he; exact hn _ _ hR
theorem rf {m:ao} {sl:List ab} {a:Act} (hs:af m sl a.tmps.toList) {j d:Nat} (hj:(ops[j]?).bind (·.dst)=some d) :
 (∀ b,sl.getD d .any=.bool b->yielded ops a.tmps j=some b)/\(∀ vs,sl.getD d .any=.tup vs->yielded ops a.tmps j=none)/\(∀ k n,sl.getD d .any=.int k n->yielded ops a.tmps j=none):=by
 have key:∀ x,sl.getD d .any=x->x ≠ .any->∃ v,a.tmps[d]? = some v/\vrel m x v:=fun x hx hne=>by
  cases hg:sl[d]? with
  | none=>simp [List.getD,hg] at hx; exact (hne hx.symm).elim
  | some y =>
    obtain ⟨v,hv,hr⟩:=cU d hs hg
    simp [List.getD,hg] at hx
    subst hx
    exact ⟨v,by simpa using hv,hr⟩
 refine ⟨fun b hb=>?_,fun vs hb=>?_,fun k n hb=>?_⟩ <;> obtain ⟨v,hv,hr⟩:=key _ hb (by simp) <;> simp only [yielded,hj,Option.bind_some,hv]
 ·rw [eL hr]
 ·simp only [vrel] at hr; obtain ⟨us,rfl,_⟩:=hr; rfl
 ·rw [dj hr]
theorem ib {m:ao} {sl:List ab} {lh:List ac} {a:Act} {w:World} (h:gb B m sl lh a w) {d:Nat} {x:ab} (hx:sl.getD d .any=x):gb B m (sl.set d x) lh a w:=by
 refine ⟨?_,h.2.1,h.2.2⟩
 cases hg:sl[d]? with
 | none =>
   rw [List.set_eq_of_length_le (by simpa using hg)]; exact h.1
 | some y =>
   simp [List.getD,hg] at hx
   subst hx
   have:sl.set d y=sl:=by
    apply List.ext_getElem?; intro j
    rw [List.getElem?_set]; split
    ·rename_i e; subst e
     obtain ⟨h1,h2⟩:=List.getElem?_eq_some_iff.1 hg
     simp [h1,h2]
    ·rfl
   rw [this]; exact h.1
theorem gJ (hF:Open F) (hS:∀ f,(S f).Sound P f) (hE:∀ t ∈ eqs,cm P t) {Q:Exit->Act->World->Prop} (rest:List Nat):∀ (l:List Oper) (xs:List SOp) (k:Nat) (sl:List ab) (lh:List ac) (m:ao) (a:Act) (w:World) (K:List ab->List ac->Prop),
 (∀ j,j < l.length->l[j]? = ops[k+j]?)->bg P eqs ops l=some xs->cM B.w0 S xs sl lh K->gb B m sl lh a w ->
 (∀ sl' lh' m' a' w',gb B m' sl' lh' a' w'->Ext lh m lh' m'->K sl' lh'->wpOpsIn F n P ops Q rest a' w')->wpOpsIn F n P ops Q (List.range' k l.length++rest) a w
 | [],xs,k,sl,lh,m,a,w,K,_,hc,hv,hs,hQ=>by
   simp only [bg,Option.some.injEq] at hc; subst hc
   exact hQ _ _ _ _ _ hs (Ext.refl _ _) hv
 | o :: l,xs,k,sl,lh,m,a,w,K,hl,hc,hv,hs,hQ=>by
   have h0:ops[k]? = some o:=by simpa using (hl 0 (by simp)).symm
   have hl':∀ j,j < l.length->l[j]? = ops[k+1+j]? := fun j hj=>by have:=hl (j+1) (by simpa using hj); simpa [Nat.add_assoc,Nat.add_comm 1 j] using this
   simp only [bg] at hc
   split at hc
   ·rename_i x xs' hx hxs
    cases hc
    simp only [List.length_cons,List.range'_succ,List.cons_append,wpOpsIn,h0]
    have ih:=fun sl1 lh1 m1 a1 w1 hv hs (he:Ext lh m lh1 m1)=>gJ hF hS hE rest l xs' (k+1) sl1 lh1 m1 a1 w1 K hl' hxs hv hs (fun sl' lh' m' a' w' h1 h2 h3=>hQ sl' lh' m' a' w' h1 (he.trans h2) h3)
    unfold fV at hx
    split at hx
    ·rename_i i hi hg
     cases hx
     simp only [cM] at hv
     rw [if_pos (by simp [Region.wanted,hg])]
     refine d5 hF hi (j0 hS hE hi hs.1 hs.2.2 hv) fun v w' ⟨r,m',lh',h1,h2,h3,h4⟩=>?_
     exact ih _ _ m' _ _ h4 (hs.put h2.1 h3 o.dst h1) h2
    ·rename_i i j want hi hg
     split at hx
     ·rename_i d hd
      cases hx
      simp only [cM] at hv
      obtain ⟨y1,y2,y3⟩:=rf (ops:=ops) hs.1 hd
      split at hv
      ·rename_i b hb
       have hy:=y1 b hb
       by_cases hbw:b=want
       ·subst hbw
        have hs':=ib hs hb
        rw [if_pos (by simp [Region.wanted,hg,hy])]
        refine d5 hF hi (j0 hS hE hi hs'.1 hs'.2.2 (hv.1 rfl)) fun v w' ⟨r,m',lh',h1,h2,h3,h4⟩=>?_
        exact ih _ _ m' _ _ h4 (hs'.put h2.1 h3 o.dst h1) h2
       ·have hbn:b=!want:=by cases b <;> cases want <;> simp_all
        have hs':=ib hs hb
        rw [if_neg (by simp [Region.wanted,hg,hy,hbw])]
        refine ⟨fun f _=>hF.fn f,?_⟩
        rw [hbn] at hs'
        exact ih _ _ m _ _ (hv.2 hbn) (hs'.put (ao.le_refl m) hs.2.2 o.dst (by simp [vrel,af,undef])) (Ext.refl _ _)
      ·rename_i vs hb
       rw [if_neg (by simp [Region.wanted,hg,y2 _ hb])]
       refine ⟨fun f _=>hF.fn f,?_⟩
       exact ih _ _ m _ _ hv ((ib hs hb).put (ao.le_refl m) hs.2.2 o.dst (by simp [vrel,af,undef])) (Ext.refl _ _)
      ·rename_i hb
       rw [if_neg (by simp [Region.wanted,hg,y3 _ _ hb])]
       refine ⟨fun f _=>hF.fn f,?_⟩
       exact ih _ _ m _ _ hv (hs.put (ao.le_refl m) hs.2.2 o.dst (by simp [vrel,af,undef])) (Ext.refl _ _)
      ·exact hv.elim
     ·cases hx
    ·cases hx
   ·cases hc
end
end Go.Sx
namespace Go.Sx
structure bf.Ok (P:Program) (f:FuncId) (S:bf):Prop where
 sound:S.Sound P f
 mono:∀ w0 args lh K K',(∀ r l,K r l->K' r l)->S w0 args lh K->S w0 args lh K'
 strict:∀ w0 args lh (Q:Prop),S w0 args lh (fun _ _=>Q)->Q
def det:IOp->Bool
 | .call .. | .callv .. | .app ..=>false
 | _=>true
section
variable {w0:World} {S:FuncId->bf} {sl:List ab} {lh:List ac} {pl:Option Nat}
theorem y9 {o:ac} {K K':Nat->List ac->Prop} (h:∀ p l,K p l->K' p l) (hp:place pl lh o K):place pl lh o K':=by
 cases pl with
 | none=>exact h _ _ hp
 | some p=>exact ⟨hp.1,h _ _ hp.2⟩
theorem B4 (o:ac):∃ d:Option (Nat × List ac),∀ K:Nat->List ac->Prop,place pl lh o K ↔ ∃ p l,d=some (p,l)/\K p l:=by
 cases pl with
 | none=>exact ⟨some (lh.length,lh++[o]),fun K=>⟨fun h=>⟨_,_,rfl,h⟩,fun ⟨p,l,e,h⟩=>by cases e; exact h⟩⟩
 | some p =>
   by_cases hd:lh[p]? = some .dead
   ·exact ⟨some (p,lh.set p o),fun K=>⟨fun h=>⟨_,_,rfl,h.2⟩,fun ⟨q,l,e,h⟩=>by cases e; exact ⟨hd,h⟩⟩⟩
   ·exact ⟨none,fun K=>⟨fun h=>(hd h.1).elim,fun ⟨q,l,e,h⟩=>by cases e⟩⟩
def Det (Φ:(ab->List ac->Prop)->Prop):Prop:=∃ d:Option (ab × List ac),∀ K,Φ K ↔ ∃ v l,d=some (v,l)/\K v l
theorem Det.yes (v:ab) (l:List ac):Det (fun K=>K v l):=⟨some (v,l),fun _=>⟨fun h=>⟨_,_,rfl,h⟩,fun ⟨_,_,e,h⟩=>by cases e; exact h⟩⟩
theorem Det.no:Det (fun _=>False):=⟨none,fun _=>⟨fun h=>h.elim,fun ⟨_,_,e,_⟩=>by cases e⟩⟩
theorem Det.and {Φ:(ab->List ac->Prop)->Prop} (p:Prop) (h:Det Φ):Det (fun K=>p/\Φ K):=by
 obtain ⟨d,hd⟩:=h
 by_cases hp:p
 ·exact ⟨d,fun K=>⟨fun h=>(hd K).1 h.2,fun h=>⟨hp,(hd K).2 h⟩⟩⟩
 ·exact ⟨none,fun K=>⟨fun h=>(hp h.1).elim,fun ⟨_,_,e,_⟩=>by cases e⟩⟩
theorem Det.ex {α:Type} {Φ:α->(ab->List ac->Prop)->Prop} (x:Option α) (h:∀ a,Det (Φ a)):Det (fun K=>∃ a,x=some a/\Φ a K):=by
 cases x with
 | none=>exact ⟨none,fun K=>⟨fun ⟨_,e,_⟩=>(by cases e),fun ⟨_,_,e,_⟩=>(by cases e)⟩⟩
 | some a =>
   obtain ⟨d,hd⟩:=h a
   exact ⟨d,fun K=>⟨fun ⟨_,e,hK⟩=>(by cases e; exact (hd K).1 hK),fun hK=>⟨a,rfl,(hd K).2 hK⟩⟩⟩
theorem Det.congr {Φ Ψ:(ab->List ac->Prop)->Prop} (h:∀ K,Φ K ↔ Ψ K) (hd:Det Ψ):Det Φ:=by
 obtain ⟨d,hd⟩:=hd
 exact ⟨d,fun K=>(h K).trans (hd K)⟩
theorem Det.place (o:ac) (f:Nat->ab):Det (fun K=>place pl lh o fun p l=>K (f p) l):=by
 obtain ⟨d,hd⟩:=B4 (lh:=lh) (pl:=pl) o
 refine ⟨d.map fun (p,l)=>(f p,l),fun K=>(hd _).trans ⟨fun ⟨p,l,e,h⟩=>⟨_,_,by rw [e]; rfl,h⟩,fun ⟨v,l,e,h⟩=>?_⟩⟩
 cases d with
 | none=>cases e
 | some d=>cases e; exact ⟨_,_,rfl,h⟩
theorem Det.bnd {Φ:Nat->(ab->List ac->Prop)->Prop} (x:Option ab) (y d:Nat) (h:∀ n,Det (Φ n)):Det (fun K=>bnd x y d fun n=>Φ n K):=by
 unfold Sx.bnd
 cases x with
 | none=>exact h d
 | some x=>cases x <;> first | exact Det.no | exact Det.and _ (Det.and _ (h _))
theorem Det.parts (ps:List (Nat × Nat × Arg)):∀ (z:List ab) {Φ:List ab->(ab->List ac->Prop)->Prop},(∀ cs,Det (Φ cs))->Det (fun K=>parts sl ps z fun cs=>Φ cs K):=by
 induction ps with
 | nil=>intro z Φ h; exact h z
 | cons p ps ih=>intro z Φ h; obtain ⟨off,n,x⟩:=p; exact Det.and _ (Det.and _ (Det.and _ (ih _ h)))
theorem Det.mm2 (b:Bool) (l:List ac):∀ (ys:List ab) (x:ab),Det (fun K=>mm2 b x ys fun v=>K v l)
 | [],x=>by cases x <;> exact Det.yes _ _
 | y :: ys,x=>by
   cases x with
   | int k a=>cases y with
     | int k' c=>exact Det.and _ (Det.mm2 b l ys _)
     | _=>exact Det.no
   | _=>cases y <;> exact Det.no
theorem ut {op:IOp} (h:det op=true):Det (fun K=>vcI w0 S sl lh pl K op):=by
 cases op <;> simp only [det,Bool.false_eq_true] at h <;> clear h <;> simp only [vcI]
 case mov=>exact Det.yes _ _
 case pick c x y =>
  cases arg sl c <;> try exact Det.no
  rename_i t
  cases t
  ·exact Det.congr (fun K=>⟨fun h=>h.2 rfl,fun h=>⟨fun e=>(by cases e),fun _=>h⟩⟩) (Det.yes (arg sl y) lh)
  ·exact Det.congr (fun K=>⟨fun h=>h.1 rfl,fun h=>⟨fun _=>h,fun e=>(by cases e)⟩⟩) (Det.yes (arg sl x) lh)
 case new=>exact Det.place _ _
 case box=>exact Det.and _ (Det.place _ _)
 case agg=>exact Det.parts _ _ fun _=>Det.yes _ _
 case bsl=>exact Det.parts _ _ fun _=>Det.place _ _
 case ld x =>
  cases arg sl x <;> try exact Det.no
  rename_i p
  cases p
  ·exact Det.no
  ·exact Det.ex _ fun _=>Det.yes _ _
 case lds n x =>
  cases arg sl x <;> try exact Det.no
  rename_i p
  cases p
  ·exact Det.no
  ·exact Det.ex _ fun _=>Det.yes _ _
 case isn neg x =>
  cases arg sl x <;> first | exact Det.no | exact Det.yes _ _
 case clr esz z x =>
  cases arg sl x <;> try exact Det.no
  rename_i p n c
  cases p with
  | none=>exact Det.and _ (Det.yes _ _)
  | some p =>
    cases p with
    | g a=>exact Det.and _ (Det.yes _ _)
    | l k off =>
      cases hg:lh[k]? with
      | none=>exact Det.congr (fun K=>⟨fun ⟨_,_,e,_⟩=>(by rw [hg] at e; cases e),fun h=>h.elim⟩) Det.no
      | some ob =>
        cases ob with
        | cells cs ty =>
          refine Det.congr (Ψ:=fun K=>n ≠ 0/\off+n * esz<=cs.length/\K (.tup []) (lh.set k (.cells (wr cs off (List.replicate n z).flatten) ty))) (fun K=>?_) (Det.and _ (Det.and _ (Det.yes _ _)))
          constructor
          ·rintro ⟨cs',ty',e,h1,h2,h3⟩
           rw [hg] at e; cases e; exact ⟨h1,h2,h3⟩
          ·rintro ⟨h1,h2,h3⟩
           exact ⟨cs,ty,hg,h1,h2,h3⟩
        | dead=>exact Det.congr (fun K=>⟨fun ⟨_,_,e,_⟩=>(by rw [hg] at e; cases e),fun h=>h.elim⟩) Det.no
        | hid=>exact Det.congr (fun K=>⟨fun ⟨_,_,e,_⟩=>(by rw [hg] at e; cases e),fun h=>h.elim⟩) Det.no
 case st n x y =>
  cases arg sl x <;> try exact Det.no
  rename_i p
  cases p
  ·exact Det.no
  rename_i p
  cases p
  ·rename_i k off
   cases hg:lh[k]? with
   | none=>exact Det.congr (fun K=>⟨fun ⟨_,_,e,_⟩=>(by rw [hg] at e; cases e),fun h=>h.elim⟩) Det.no
   | some ob =>
     cases ob with
     | cells cs ty =>
       refine Det.congr (Ψ:=fun K=>(arg sl y).flat=true/\(arg sl y).cells.length=n/\off+n<=cs.length/\K (.tup []) (lh.set k (.cells (wr cs off (arg sl y).cells) ty))) (fun K=>?_) (Det.and _ (Det.and _ (Det.and _ (Det.yes _ _))))
       exact ⟨fun ⟨_,_,e,h⟩=>(by rw [hg] at e; cases e; exact h),fun h=>⟨cs,ty,hg,h⟩⟩
     | _=>exact Det.congr (fun K=>⟨fun ⟨_,_,e,_⟩=>(by rw [hg] at e; cases e),fun h=>h.elim⟩) Det.no
  ·exact Det.no
 case nz x =>
  cases arg sl x <;> try exact Det.no
  ·rename_i p
   cases p
   ·exact Det.no
   ·exact Det.yes _ _
  ·rename_i f _ _
   cases f <;> first | exact Det.yes _ _ | exact Det.no
 case bin op x y =>
  unfold Ce
  cases arg sl x <;> cases arg sl y <;> try exact Det.no
  ·refine Det.and _ ?_
   cases op <;> simp only [ow] <;> first | exact Det.yes _ _ | exact Det.and _ (Det.yes _ _) | exact Det.no
  ·cases op <;> simp only [uh] <;> first | exact Det.yes _ _ | exact Det.and _ (Det.yes _ _) | exact Det.no
 case eqa neg n x y =>
  cases arg sl x <;> cases arg sl y <;> try exact Det.no
  exact Det.and _ (Det.ex _ fun _=>Det.yes _ _)
 case eqb neg x y =>
  cases arg sl x <;> cases arg sl y <;> try exact Det.no
  exact Det.yes _ _
 case un op x =>
  cases op <;> cases arg sl x <;> first | exact Det.no | exact Det.yes _ _
 case conv k x=>cases arg sl x <;> first | exact Det.no | exact Det.yes _ _
 case mkf=>exact Det.yes _ _
 case fa off x =>
  cases arg sl x <;> try exact Det.no
  rename_i p
  cases p <;> first | exact Det.no | exact Det.yes _ _
 case fld off n x =>
  cases arg sl x <;> try exact Det.no
  cases n
  ·exact Det.ex _ fun _=>Det.yes _ _
  ·exact Det.yes _ _
 case iaA n esz x ix =>
  cases arg sl x <;> try exact Det.no
  rename_i p
  cases p <;> try exact Det.no
  cases arg sl ix <;> first | exact Det.no | exact Det.and _ (Det.and _ (Det.yes _ _))
 case iaS esz x ix =>
  cases arg sl x <;> try exact Det.no
  cases arg sl ix <;> first | exact Det.no | exact Det.and _ (Det.and _ (Det.ex _ fun _=>Det.yes _ _))
 case ixA n esz sz x ix =>
  cases arg sl x <;> try exact Det.no
  cases arg sl ix <;> try exact Det.no
  refine Det.and _ (Det.and _ ?_)
  cases sz
  ·exact Det.ex _ fun _=>Det.yes _ _
  ·exact Det.yes _ _
 case ixS x ix =>
  cases arg sl x <;> try exact Det.no
  cases arg sl ix <;> first | exact Det.no | exact Det.and _ (Det.and _ (Det.yes _ _))
 case len x=>cases arg sl x <;> first | exact Det.no | exact Det.yes _ _
 case lenT x=>cases arg sl x <;> first | exact Det.no | exact Det.yes _ _
 case lenA=>exact Det.yes _ _
 case mm=>exact Det.mm2 _ _ _ _
 case ext x i =>
  cases arg sl x <;> try exact Det.no
  exact Det.ex _ fun _=>Det.yes _ _
 case slS esz x lo hi mx =>
  cases arg sl x <;> try exact Det.no
  exact Det.bnd _ _ _ fun _=>Det.bnd _ _ _ fun _=>Det.bnd _ _ _ fun _=>Det.yes _ _
 case slA n esz x lo hi mx =>
  cases arg sl x <;> try exact Det.no
  rename_i p
  cases p <;> try exact Det.no
  exact Det.bnd _ _ _ fun _=>Det.bnd _ _ _ fun _=>Det.bnd _ _ _ fun _=>Det.yes _ _
 case slT x lo hi =>
  cases arg sl x <;> try exact Det.no
  exact Det.bnd _ _ _ fun _=>Det.bnd _ _ _ fun _=>Det.yes _ _
 case mks=>exact Det.place _ _
theorem Det.mono {Φ:(ab->List ac->Prop)->Prop} (h:Det Φ) {K K':ab->List ac->Prop} (hk:∀ v l,K v l->K' v l) (hp:Φ K):Φ K':=by
 obtain ⟨d,hd⟩:=h
 obtain ⟨v,l,e,hK⟩:=(hd K).1 hp
 exact (hd K').2 ⟨v,l,e,hk _ _ hK⟩
theorem yM {ty:TypeId} {esz bytes:Nat} {zero:List ab} {K K':ab->List ac->Prop} {x y:ab} (hk:∀ v l,K v l->K' v l) (h:mV w0 lh pl ty esz bytes zero K x y):mV w0 lh pl ty esz bytes zero K' x y:=by
 unfold mV at *
 split at h
 ·rename_i p n c q k _
  obtain ⟨new,h1,h2,h3⟩:=h
  refine ⟨new,h1,fun hc=>?_,fun hc=>?_⟩
  ·have h2:=h2 hc
   cases p with
   | none=>exact hk _ _ h2
   | some p=>cases p with
     | l b off=>obtain ⟨cs,t,a,b,c,d⟩:=h2; exact ⟨cs,t,a,b,c,hk _ _ d⟩
     | g a=>exact ⟨h2.1,hk _ _ h2.2⟩
  ·obtain ⟨old,a,b,c,d⟩:=h3 hc
   exact ⟨old,a,b,c,fun c' hc'=>y9 (fun _ _=>hk _ _) (d c' hc')⟩
 ·exact h.elim
theorem uz {o:ac} {Q:Prop} (h:place pl lh o fun _ _=>Q):Q:=by
 cases pl with
 | none=>exact h
 | some p=>exact h.2
theorem vg {ty:TypeId} {esz bytes:Nat} {zero:List ab} {Q:Prop} {x y:ab} (h:mV w0 lh pl ty esz bytes zero (fun _ _=>Q) x y):Q:=by
 unfold mV at h
 split at h
 ·rename_i p n c q k _
  obtain ⟨new,h1,h2,h3⟩:=h
  by_cases hc:n+k<=c
  ·have h2:=h2 hc
   cases p with
   | none=>exact h2
   | some p=>cases p with
     | l b off=>obtain ⟨cs,t,a,b,c,d⟩:=h2; exact d
     | g a=>exact h2.2
  ·obtain ⟨old,a,b,c,d⟩:=h3 (by omega)
   exact uz (d _ (Nat.le_refl _))
 ·exact h.elim
theorem cW {P:Program} (hS:∀ f,(S f).Ok P f) {op:IOp} {K K':ab->List ac->Prop} (hk:∀ v l,K v l->K' v l) (h:vcI w0 S sl lh pl K op):vcI w0 S sl lh pl K' op:=by
 by_cases hd:det op=true
 ·exact (ut hd).mono hk h
 ·cases op <;> simp only [det,not_true_eq_false] at hd <;> simp only [vcI] at h ⊢
  case call f xs=>exact (hS f).mono _ _ _ _ _ hk h
  case callv x xs =>
   split at h
   ·exact (hS _).mono _ _ _ _ _ hk h
   ·exact h.elim
  case app=>exact yM hk h
theorem i9 {P:Program} (hS:∀ f,(S f).Ok P f) {op:IOp} {Q:Prop} (h:vcI w0 S sl lh pl (fun _ _=>Q) op):Q:=by
 by_cases hd:det op=true
 ·obtain ⟨d,hd⟩:=ut (w0:=w0) (S:=S) (sl:=sl) (lh:=lh) (pl:=pl) hd
  obtain ⟨_,_,_,hQ⟩:=(hd _).1 h
  exact hQ
 ·cases op <;> simp only [det,not_true_eq_false] at hd <;> simp only [vcI] at h
  case call f xs=>exact (hS f).strict _ _ _ _ h
  case callv x xs =>
   split at h
   ·exact (hS _).strict _ _ _ _ h
   ·exact h.elim
  case app=>exact vg h
end
end Go.Sx
namespace Go.Sx
def hide (X:List Nat) (lh:List ac):List ac:=lh.mapIdx fun k o=>if k ∈ X then .hid else o
def mix (W:List Nat) (lh l:List ac):List ac:=lh.mapIdx fun k o=>if k ∈ W then l.getD k o else o
def fJ (W:List Nat) (l h:List ac):Prop:=l.length=h.length/\∀ k,k ∉ W->l[k]? = h[k]?
theorem cd (X:List Nat) (lh:List ac) (k:Nat):(hide X lh)[k]? = if k ∈ X then lh[k]?.map (fun _=>.hid) else lh[k]? := by
 unfold hide
 rw [List.getElem?_mapIdx]
 split
 ·cases lh[k]? with
  | none=>rfl
  | some o=>simp
 ·cases lh[k]? with
  | none=>rfl
  | some o=>simp
theorem oK (X:List Nat) (lh:List ac):(hide X lh).length=lh.length:=by simp [hide]
theorem pI (W:List Nat) (lh l:List ac) (k:Nat):(mix W lh l)[k]? = if k ∈ W then lh[k]?.map (fun o=>l.getD k o) else lh[k]? := by
 unfold mix
 rw [List.getElem?_mapIdx]
 split
 ·cases lh[k]? with
  | none=>rfl
  | some o=>simp
 ·cases lh[k]? with
  | none=>rfl
  | some o=>simp
theorem yB (W:List Nat) (lh l:List ac):(mix W lh l).length=lh.length:=by simp [mix]
theorem aw.unhide {B:bm} {m m':ao} {lh lh':List ac} {w w':World} {X W:List Nat} (h:aw B m lh w)
 (h':aw ⟨B.w0,w,fun b=>∃ k cs ty,k ∉ X/\lh[k]? = some (.cells cs ty)/\m k=some b,B.ds⟩ m' lh' w') (he:Ext (hide X lh) m lh' m') (hw:fJ W lh' (hide X lh)) :
 aw B m' (mix W lh lh') w'/\Ext lh m (mix W lh lh') m':=by
 have hlen:lh'.length=lh.length:=by rw [hw.1,oK]
 -- what an entry of the new heap is
 have hent:∀ k o,(mix W lh lh')[k]? = some o->(lh'[k]? = some o) ∨ (k ∈ X/\lh[k]? = some o/\lh'[k]? = some .hid):=fun k o hk=>by
  rw [pI] at hk
  split at hk
  ·cases hl:lh[k]? with
   | none=>rw [hl] at hk; cases hk
   | some o' =>
     rw [hl] at hk; simp at hk
     have hlt:k < lh'.length:=by rw [hlen]; exact (List.getElem?_eq_some_iff.1 hl).1
     left
     rw [List.getElem?_eq_getElem hlt] at hk ⊢
     simpa using hk
  ·rename_i hkW
   have hk':=hw.2 k hkW
   rw [cd] at hk'
   split at hk'
   ·rename_i hX
    right
    exact ⟨hX,hk,by rw [hk',hk]; rfl⟩
   ·left; rw [hk']; exact hk
 have hnoown:∀ k cs ty b,k ∈ X->lh[k]? = some (.cells cs ty)->m k=some b->¬ ∃ j cs ty,j ∉ X/\lh[j]? = some (ac.cells cs ty)/\m j=some b:=fun k cs ty b hX hk hb ⟨j,cs',ty',hj,hl,hb'⟩=>by
  exact hj (h.inj j k b cs' cs ty' ty hl hk hb' hb ▸ hX)
 refine ⟨⟨h'.os.trans h.os,h'.tape.trans h.tape,h'.output.trans h.output,h'.size,h'.old,Nat.le_trans h.fsize h'.fsize,fun b hb ho=>?_,fun k cs ty hk=>?_,fun k k' b cs cs' ty ty' h1 h2 hb hb'=>?_,fun k hk=>?_,fun k hk=>?_,h'.rng⟩,he.1,fun k hk=>?_⟩
 ·rw [h'.kept b (Nat.lt_of_lt_of_le hb h.fsize) (fun ⟨k,cs,ty,_,hl,hm⟩=>?_)]
  ·exact h.kept b hb ho
  ·obtain ⟨b',_,hb',_,_,_,h3⟩:=h.loc k cs ty hl
   rw [hm] at hb'; cases hb'
   rcases h3 with h3 | h3
   ·omega
   ·exact ho h3
 ·rcases hent k _ hk with hl | ⟨hX,hl,_⟩
  ·obtain ⟨b,vs,hb,hvs,hh,h1,h2⟩:=h'.loc k cs ty hl
   refine ⟨b,vs,hb,hvs,hh,h1,?_⟩
   rcases h2 with h2 | ⟨j,cs',ty',hj,hlj,hmj⟩
   ·exact .inl (Nat.le_trans h.fsize h2)
   ·obtain ⟨b',_,hb',_,_,_,h3⟩:=h.loc j cs' ty' hlj
    rw [hmj] at hb'; cases hb'
    exact h3
  ·obtain ⟨b,vs,hb,hvs,hh,h1,h2⟩:=h.loc k cs ty hl
   refine ⟨b,vs,he.1 _ _ hb,bl he.1 _ _ hvs,?_,h1,h2⟩
   rw [h'.kept b (h.rng k b hb) (hnoown k cs ty b hX hl hb)]
   exact hh
 ·have mixed:∀ k k' b cs cs' ty ty',lh'[k]? = some (.cells cs ty)->k' ∈ X->lh[k']? = some (.cells cs' ty')->m' k=some b->m' k'=some b->False:=fun k k' b cs cs' ty ty' hl hX hl' hb hb'=>by
   obtain ⟨b0,_,hb0,_⟩:=h.loc k' cs' ty' hl'
   have e:=he.1 _ _ hb0
   rw [hb'] at e; cases e
   obtain ⟨b1,_,hb1,_,_,_,h2⟩:=h'.loc k cs ty hl
   rw [hb] at hb1; cases hb1
   rcases h2 with h2 | h2
   ·have h3:=h.rng k' b hb0
    have h4:w.heap.size<=b:=h2
    omega
   ·exact hnoown k' cs' ty' b hX hl' hb0 h2
  rcases hent k _ h1 with hl | ⟨hX,hl,_⟩ <;> rcases hent k' _ h2 with hl' | ⟨hX',hl',_⟩
  ·exact h'.inj k k' b cs cs' ty ty' hl hl' hb hb'
  ·exact (mixed k k' b cs cs' ty ty' hl hX' hl' hb hb').elim
  ·exact (mixed k' k b cs' cs ty' ty hl' hX hl hb' hb).elim
  ·obtain ⟨b0,_,hb0,_⟩:=h.loc k cs ty hl
   obtain ⟨b1,_,hb1,_⟩:=h.loc k' cs' ty' hl'
   have e:=he.1 _ _ hb0; rw [hb] at e; cases e
   have e:=he.1 _ _ hb1; rw [hb'] at e; cases e
   exact h.inj k k' b cs cs' ty ty' hl hl' hb0 hb1
 ·exact h'.dom k (by rw [yB] at hk; omega)
 ·rcases hent k _ hk with hl | ⟨hX,hl,hl'⟩
  ·exact h'.dead k hl
  ·have hd:=h.dead k hl
   have hh:(hide X lh)[k]? = some .hid:=by rw [cd,if_pos hX,hl]; rfl
   rw [(he.2 k hh).2]; exact hd
 ·have hh:(hide X lh)[k]? = some .hid:=by
   rw [cd]; split
   ·rw [hk]; rfl
   ·exact hk
  obtain ⟨h1,h2⟩:=he.2 k hh
  refine ⟨?_,h2⟩
  rw [pI]; split
  ·rw [hk]; simp [List.getD,h1]
  ·exact hk
theorem aw.hide {B:bm} {m:ao} {lh:List ac} {w:World} (h:aw B m lh w) (X:List Nat) :
 aw ⟨B.w0,w,fun b=>∃ k cs ty,k ∉ X/\lh[k]? = some (.cells cs ty)/\m k=some b,B.ds⟩ m (hide X lh) w:=by
 have hv:∀ k cs ty,(Sx.hide X lh)[k]? = some (.cells cs ty)->k ∉ X/\lh[k]? = some (.cells cs ty):=fun k cs ty hk=>by
  rw [cd] at hk; split at hk
  ·cases hl:lh[k]? <;> rw [hl] at hk <;> cases hk
  ·exact ⟨by assumption,hk⟩
 refine ⟨rfl,rfl,rfl,h.size,h.old,Nat.le_refl _,fun _ _ _=>rfl,fun k cs ty hk=>?_,fun k k' b cs cs' ty ty' h1 h2 hb hb'=>?_,fun k hk=>h.dom k (by rw [oK] at hk; exact hk),fun k hk=>?_,h.rng⟩
 ·obtain ⟨hX,hl⟩:=hv k cs ty hk
  obtain ⟨b,vs,hb,hvs,hh,h1,_⟩:=h.loc k cs ty hl
  exact ⟨b,vs,hb,hvs,hh,h1,.inr ⟨k,cs,ty,hX,hl,hb⟩⟩
 ·exact h.inj k k' b cs cs' ty ty' (hv _ _ _ h1).2 (hv _ _ _ h2).2 hb hb'
 ·rw [cd] at hk; split at hk
  ·cases hl:lh[k]? <;> rw [hl] at hk <;> cases hk
  ·exact h.dead k hk
inductive Eff where
 | run (v:ab) (l:List ac)
 | skip
def jq (w0:World) (S:FuncId->bf) (W:List Nat) (pl:Option Nat) (o:SOp) (sl:List ab) (hl:List ac) (K:Eff->Prop):Prop :=
 match o.guard with
 | none=>vcI w0 S sl hl pl (fun v l=>fJ W l hl/\K (.run v l)) o.op
 | some (d,want) =>
   match sl.getD d .any with
   | .bool b=>(b=want->vcI w0 S sl hl pl (fun v l=>fJ W l hl/\K (.run v l)) o.op)/\(b=!want->K .skip)
   | .tup _=>K .skip
   | .int ..=>K .skip
   | _=>False
def e9 (o:SOp) (sl:List ab):Eff->List ab
 | .run v _=>cA sl o.dst v
 | .skip=>cA sl o.dst (.tup [])
def gi (W:List Nat) (lh:List ac):Eff->List ac
 | .run _ l=>mix W lh l
 | .skip=>lh
def vcM (w0:World) (S:FuncId->bf) (X W:List Nat) (pl:Option Nat) (o:SOp) (sl:List ab) (lh:List ac) (K:List ab->List ac->Prop):Prop :=
 jq w0 S W pl o sl (hide X lh) fun e=>K (e9 o sl e) (gi W lh e)
section
variable {P:Program} {S:FuncId->bf} {W X:List Nat} {pl:Option Nat} {o:SOp} {sl sl':List ab} {lh lh' hl:List ac} {w0:World}
theorem fO (hS:∀ f,(S f).Ok P f) {K K':Eff->Prop} (hk:∀ e,K e->K' e) (h:jq w0 S W pl o sl hl K):jq w0 S W pl o sl hl K':=by
 unfold jq at *
 split
 ·rename_i hg; rw [hg] at h; exact cW hS (fun _ _ ⟨a,b⟩=>⟨a,hk _ b⟩) h
 ·rename_i d want hg
  rw [hg] at h
  dsimp only at h
  split at h
  ·exact ⟨fun e=>cW hS (fun _ _ ⟨a,b⟩=>⟨a,hk _ b⟩) (h.1 e),fun e=>hk _ (h.2 e)⟩
  ·exact hk _ h
  ·exact hk _ h
  ·exact h.elim
theorem jG (hS:∀ f,(S f).Ok P f) {Q:Prop} (h:jq w0 S W pl o sl hl fun _=>Q):Q:=by
 unfold jq at h
 split at h
 ·exact i9 hS (cW hS (K':=fun _ _=>Q) (fun _ _ ⟨_,b⟩=>b) h)
 ·rename_i d want hg
  split at h
  ·rename_i b _
   by_cases e:b=want
   ·exact i9 hS (cW hS (K':=fun _ _=>Q) (fun _ _ ⟨_,b⟩=>b) (h.1 e))
   ·exact h.2 (by cases b <;> cases want <;> simp_all)
  ·exact h
  ·exact h
  ·exact h.elim
theorem xy (hd:det o.op=true):∃ d:Option Eff,∀ K,jq w0 S W pl o sl hl K ↔ ∃ e,d=some e/\K e:=by
 obtain ⟨d,hd⟩:=ut (w0:=w0) (S:=S) (sl:=sl) (lh:=hl) (pl:=pl) hd
 have hrun:∃ d':Option Eff,∀ K:Eff->Prop,vcI w0 S sl hl pl (fun v l=>fJ W l hl/\K (.run v l)) o.op ↔ ∃ e,d'=some e/\K e:=by
  cases d with
  | none=>exact ⟨none,fun K=>(hd _).trans ⟨fun ⟨_,_,e,_⟩=>(by cases e),fun ⟨_,e,_⟩=>(by cases e)⟩⟩
  | some p =>
    obtain ⟨v,l⟩:=p
    by_cases hs:fJ W l hl
    ·exact ⟨some (.run v l),fun K=>(hd _).trans ⟨fun ⟨_,_,e,h⟩=>(by cases e; exact ⟨_,rfl,h.2⟩),fun ⟨_,e,h⟩=>(by cases e; exact ⟨v,l,rfl,hs,h⟩)⟩⟩
    ·exact ⟨none,fun K=>(hd _).trans ⟨fun ⟨_,_,e,h⟩=>(by cases e; exact (hs h.1).elim),fun ⟨_,e,_⟩=>(by cases e)⟩⟩
 have hskip:∃ d':Option Eff,∀ K:Eff->Prop,K .skip ↔ ∃ e,d'=some e/\K e:=⟨some .skip,fun K=>⟨fun h=>⟨_,rfl,h⟩,fun ⟨_,e,h⟩=>(by cases e; exact h)⟩⟩
 unfold jq
 cases hg:o.guard with
 | none=>exact hrun
 | some g =>
   obtain ⟨t,want⟩:=g
   simp only
   cases hv:sl.getD t .any with
   | bool b =>
     simp only
     by_cases e:b=want
     ·obtain ⟨d',h'⟩:=hrun
      refine ⟨d',fun K=>⟨fun h=>(h' K).1 (h.1 e),fun h=>⟨fun _=>(h' K).2 h,fun e'=>?_⟩⟩⟩
      have:=e.symm.trans e'
      cases want <;> cases this
     ·obtain ⟨d',h'⟩:=hskip
      refine ⟨d',fun K=>⟨fun h=>(h' K).1 (h.2 (by clear h h'; cases b <;> cases want <;> first | rfl | exact (e rfl).elim)),fun h=>⟨fun e'=>(e e').elim,fun _=>(h' K).2 h⟩⟩⟩
   | tup _=>exact hskip
   | int _ _=>exact hskip
   | _=>exact ⟨none,fun K=>⟨fun h=>h.elim,fun ⟨_,e,_⟩=>(by cases e)⟩⟩
end
end Go.Sx
namespace Go.Sx
def IOp.args:IOp->List Arg
 | .mov x | .box _ x | .ld x | .lds _ x | .nz x | .un _ x | .conv _ x | .fa _ x | .fld _ _ x | .len x | .lenT x | .ext x _ | .isn _ x | .clr _ _ x=>[x]
 | .pick c a b=>[c,a,b]
 | .new .. | .lenA _ | .mks ..=>[]
 | .agg _ ps | .bsl _ _ _ ps=>ps.map (·.2.2)
 | .st _ a x | .bin _ a x | .eqa _ _ a x | .eqb _ a x | .iaA _ _ a x | .iaS _ a x | .ixA _ _ _ a x | .ixS a x | .app _ _ _ _ a x=>[a,x]
 | .mkf _ xs ys=>xs++ys
 | .mm _ x xs=>x::xs
 | .slS _ x lo hi mx | .slA _ _ x lo hi mx=>x::(lo.toList++hi.toList++mx.toList)
 | .slT x lo hi=>x::(lo.toList++hi.toList)
 | .call _ xs=>xs
 | .callv x xs=>x::xs
def mt (xs:List Arg):List Nat:=xs.filterMap fun | .t i=>some i | .k _=>none
def SOp.reads (o:SOp):List Nat:=mt o.op.args++(match o.guard with | some (d,_)=>[d] | none=>[])
section
variable {P:Program} {S:FuncId->bf} {W X:List Nat} {pl:Option Nat} {o:SOp} {sl sl':List ab} {lh lh' hl:List ac} {w0:World}
theorem oW (ps:List (Nat × Nat × Arg)) (K:List ab->Prop) (h:∀ x ∈ ps.map (·.2.2),arg sl x=arg sl' x):∀ z,parts sl ps z K=parts sl' ps z K:=by
 induction ps with
 | nil=>intro z; rfl
 | cons p ps ih =>
   intro z
   obtain ⟨off,n,x⟩:=p
   simp only [parts]
   rw [h x (by simp),ih (fun y hy=>h y (by simp at hy ⊢; exact .inr hy))]
theorem d0 {xs:List Arg} (h:∀ x ∈ xs,arg sl x=arg sl' x):xs.map (arg sl)=xs.map (arg sl'):=List.map_congr_left h
theorem cu {x:Option Arg} (h:∀ y ∈ x.toList,arg sl y=arg sl' y):x.map (arg sl)=x.map (arg sl'):=by
 cases x with
 | none=>rfl
 | some x=>simp [h x (by simp)]
theorem nQ {op:IOp} {K:ab->List ac->Prop} (h:∀ x ∈ op.args,arg sl x=arg sl' x):vcI w0 S sl lh pl K op=vcI w0 S sl' lh pl K op:=by
 cases op <;> simp only [IOp.args,List.mem_cons,List.not_mem_nil,or_false,forall_eq_or_imp,forall_eq,List.mem_append] at h <;> simp only [vcI]
 case agg=>exact oW _ _ h _
 case bsl=>exact oW _ _ h _
 case mkf f xs ys=>rw [d0 (fun x hx=>h x (.inl hx)),d0 (fun x hx=>h x (.inr hx))]
 case mm=>rw [h.1,d0 h.2]
 case slS esz x lo hi mx=>rw [h.1,cu (fun y hy=>h.2 y (.inl (.inl hy))),cu (fun y hy=>h.2 y (.inl (.inr hy))),cu (fun y hy=>h.2 y (.inr hy))]
 case slA n esz x lo hi mx=>rw [h.1,cu (fun y hy=>h.2 y (.inl (.inl hy))),cu (fun y hy=>h.2 y (.inl (.inr hy))),cu (fun y hy=>h.2 y (.inr hy))]
 case slT x lo hi=>rw [h.1,cu (fun y hy=>h.2 y (.inl hy)),cu (fun y hy=>h.2 y (.inr hy))]
 case call=>rw [d0 h]
 case callv=>rw [h.1,d0 h.2]
 all_goals first
  | rfl
  | rw [h]
  | rw [h.1,h.2]
  | rw [h.1,h.2.1,h.2.2]
theorem qb {K:Eff->Prop} (h:∀ t ∈ o.reads,sl.getD t .any=sl'.getD t .any):jq w0 S W pl o sl hl K=jq w0 S W pl o sl' hl K:=by
 have ha:∀ x ∈ o.op.args,arg sl x=arg sl' x:=fun x hx=>by
  cases x with
  | t i=>exact h i (List.mem_append_left _ (List.mem_filterMap.2 ⟨_,hx,rfl⟩))
  | k v=>rfl
 unfold jq
 cases hg:o.guard with
 | none=>exact nQ ha
 | some g =>
   obtain ⟨d,want⟩:=g
   simp only
   rw [h d (by simp [SOp.reads,hg]),nQ ha]
def nO (x y:SOp):Bool :=
 (match x.dst with | some d=>!y.reads.contains d && y.dst != some d | none=>true) && (match y.dst with | some d=>!x.reads.contains d | none=>true)
theorem oN {x y:SOp} (h:nO x y=true):(∀ d,x.dst=some d->d ∉ y.reads)/\(∀ d,x.dst=some d->y.dst ≠ some d)/\(∀ d,y.dst=some d->d ∉ x.reads):=by
 refine ⟨fun d hd=>?_,fun d hd=>?_,fun d hd=>?_⟩ <;> simp [nO,hd] at h
 ·exact h.1.1
 ·exact h.1.2
 ·exact h.2
theorem ny {d:Option Nat} {v:ab} {t:Nat} (h:d ≠ some t):(cA sl d v).getD t .any=sl.getD t .any:=by
 cases d with
 | none=>rfl
 | some d =>
   simp only [cA]
   rw [List.getD_eq_getElem?_getD,List.getElem?_set,if_neg (fun e=>h (by rw [e])),← List.getD_eq_getElem?_getD]
theorem rn {x:SOp} {e:Eff} {t:Nat} (h:x.dst ≠ some t):(e9 x sl e).getD t .any=sl.getD t .any:=by
 cases e <;> exact ny h
theorem qu {e:Eff} (h:∀ k ∈ W,k ∈ X):hide X (gi W lh e)=hide X lh:=by
 cases e with
 | skip=>rfl
 | run v l =>
   apply List.ext_getElem?; intro k
   rw [cd,cd]
   simp only [gi]
   rw [pI]
   by_cases hX:k ∈ X
   ·rw [if_pos hX,if_pos hX]
    split
    ·cases lh[k]? <;> rfl
    ·rfl
   ·rw [if_neg hX,if_neg hX,if_neg (fun hW=>hX (h k hW))]
theorem tH {d d':Option Nat} {u v:ab} (h:∀ k,d=some k->d' ≠ some k):cA (cA sl d u) d' v=cA (cA sl d' v) d u:=by
 cases d with
 | none=>rfl
 | some d=>cases d' with
   | none=>rfl
   | some d'=>exact List.set_comm _ _ (fun e=>h d rfl (by rw [e]))
theorem xY {x y:SOp} {e e':Eff} (h:∀ k,x.dst=some k->y.dst ≠ some k):e9 y (e9 x sl e) e'=e9 x (e9 y sl e') e:=by
 cases e <;> cases e' <;> exact tH h
theorem yO {V:List Nat} {e e':Eff} (h:∀ k ∈ W,k ∉ V):gi V (gi W lh e) e'=gi W (gi V lh e') e:=by
 cases e with
 | skip=>rfl
 | run v l=>cases e' with
   | skip=>rfl
   | run v' l' =>
     apply List.ext_getElem?; intro k
     simp only [gi,pI]
     by_cases hW:k ∈ W
     ·simp [hW,h k hW]
     ·simp [hW]
theorem Rh (hS:∀ f,(S f).Ok P f) {x y:SOp} {X' W':List Nat} {pl':Option Nat} (hap:nO x y=true) (hdet:det x.op=true ∨ det y.op=true) (h1:∀ k ∈ W',k ∈ X) (h2:∀ k ∈ W,k ∈ X') (h3:∀ k ∈ W,k ∉ W')
 {K:List ab->List ac->Prop} (h:vcM w0 S X W pl x sl lh fun sl1 lh1=>vcM w0 S X' W' pl' y sl1 lh1 K):vcM w0 S X' W' pl' y sl lh fun sl1 lh1=>vcM w0 S X W pl x sl1 lh1 K:=by
 obtain ⟨a1,a2,a3⟩:=oN hap
 have loc1:∀ e (K:Eff->Prop),jq w0 S W' pl' y (e9 x sl e) (hide X' (gi W lh e)) K=jq w0 S W' pl' y sl (hide X' lh) K:=fun e K=>by
  rw [qu h2]; exact qb fun t ht=>rn (fun e=>a1 t e ht)
 have loc2:∀ e (K:Eff->Prop),jq w0 S W pl x (e9 y sl e) (hide X (gi W' lh e)) K=jq w0 S W pl x sl (hide X lh) K:=fun e K=>by
  rw [qu h1]; exact qb fun t ht=>rn (fun e=>a3 t e ht)
 have comm:∀ ex ey,K (e9 y (e9 x sl ex) ey) (gi W' (gi W lh ex) ey) ↔ K (e9 x (e9 y sl ey) ex) (gi W (gi W' lh ey) ex):=fun ex ey=>by
  rw [xY a2,yO h3]
 unfold vcM at *
 simp only [loc1] at h
 simp only [loc2]
 rcases hdet with hd | hd
 ·obtain ⟨d,hd⟩:=xy (w0:=w0) (S:=S) (W:=W) (pl:=pl) (sl:=sl) (hl:=hide X lh) hd
  obtain ⟨ex,hex,h⟩:=(hd _).1 h
  exact fO hS (fun ey hK=>(hd _).2 ⟨ex,hex,(comm ex ey).1 hK⟩) h
 ·obtain ⟨d,hd⟩:=xy (w0:=w0) (S:=S) (W:=W') (pl:=pl') (sl:=sl) (hl:=hide X' lh) hd
  have hsome:∃ ey,d=some ey:=jG hS (fO hS (fun ex hy=>let ⟨ey,hey,_⟩:=(hd _).1 hy; ⟨ey,hey⟩) h)
  obtain ⟨ey,hey⟩:=hsome
  refine (hd _).2 ⟨ey,hey,fO hS (fun ex hy=>?_) h⟩
  obtain ⟨ey',hey',hK⟩:=(hd _).1 hy
  rw [hey] at hey'; cases hey'
  exact (comm ex ey).1 hK
theorem pV (hS:∀ f,(S f).Ok P f) {K K':List ab->List ac->Prop} (hk:∀ s l,K s l->K' s l) (h:vcM w0 S X W pl o sl lh K):vcM w0 S X W pl o sl lh K' :=
 fO hS (fun _=>hk _ _) h
end
inductive vU where
 | fresh (r:Nat)
 | slot (s:Nat)
 | load (s off:Nat)
structure DOp where
 o:SOp
 rk:Option Nat
 un:List Nat
 ws:List vU
def isW:IOp->Bool
 | .st .. | .app .. | .new .. | .box .. | .bsl .. | .mks .. | .clr ..=>true
 | _=>false
def wOf (Ws:List (List Nat)) (i:Nat):List Nat:=Ws.getD i []
def xOf (Ws:List (List Nat)) (un:List Nat):List Nat:=un.flatMap (wOf Ws)
def aOp (w0:World) (S:FuncId->bf) (ds:List DOp) (Ws:List (List Nat)) (n0 i:Nat) (K:List ab->List ac->Prop) (sl:List ab) (lh:List ac):Prop :=
 match ds[i]? with
 | none=>K sl lh
 | some d=>vcM w0 S (xOf Ws d.un) (wOf Ws i) (d.rk.map (n0+·)) d.o sl lh K
def A7 (w0:World) (S:FuncId->bf) (ops:Array Oper) (ds:List DOp) (Ws:List (List Nat)) (n0:Nat) (K:List ab->List ac->Prop):Nat->Array Bool->List ab->List ac->Prop
 | 0,listed,sl,lh=>Region.ready .any ops listed=[]/\K sl lh
 | fuel+1,listed,sl,lh=>(Region.ready .any ops listed=[]->K sl lh) /\
    ∀ i ∈ Region.ready .any ops listed,aOp w0 S ds Ws n0 i (A7 w0 S ops ds Ws n0 K fuel (listed.setIfInBounds i true)) sl lh
def dep (ops:Array Oper):Nat->Nat->Nat->Bool
 | 0,_,_=>false
 | f+1,j,i=>match ops[j]? with
   | some o=>o.after.toList.any fun e=>Region.binds .any e && (e.on == i || dep ops f e.on i)
   | none=>false
def mZ (ds:List DOp) (i j:Nat):Bool :=
 match ds[i]?,ds[j]? with
 | some x,some y=>nO x.o y.o && (det x.o.op || det y.o.op) && (!isW y.o.op || x.un.contains j) && (!isW x.o.op || y.un.contains i)
 | _,_=>false
def pM (ops:Array Oper) (ds:List DOp):Bool :=
 (List.range ds.length).all fun i=>(List.range ds.length).all fun j=>i == j || dep ops ds.length i j || dep ops ds.length j i || mZ ds i j
def wA (ops:Array Oper):Nat->Nat->Array Bool->Bool
 | 0,_,listed=>(Region.ready .any ops listed).isEmpty
 | f+1,k,listed=>(Region.ready .any ops listed).contains k && wA ops f (k+1) (listed.setIfInBounds k true)
def Bm (ds:List DOp) (Ws:List (List Nat)):Prop:=∀ (i:Nat) (d:DOp),ds[i]? = some d->(isW d.o.op=false->wOf Ws i=[])/\∀ k ∈ wOf Ws i,k ∉ xOf Ws d.un
section
variable {P:Program} {S:FuncId->bf} {w0:World} {ops:Array Oper} {ds:List DOp} {Ws:List (List Nat)} {n0:Nat} {K:List ab->List ac->Prop}
def fk (ops:Array Oper) (listed:Array Bool):Prop:=∀ k o,listed.getD k false=true->ops[k]? = some o->∀ e ∈ o.after,Region.binds .any e=true->listed.getD e.on false=true
theorem fZ {listed:Array Bool} (hc:fk ops listed) {i:Nat}:∀ (f j:Nat) (o:Oper),ops[j]? = some o->(∀ e ∈ o.after,Region.binds .any e=true->listed.getD e.on false=true)->dep ops f j i=true->listed.getD i false=true
 | 0,_,_,_,_,h=>by simp [dep] at h
 | f+1,j,o,ho,hall,h=>by
   simp only [dep,ho,List.any_eq_true,Bool.and_eq_true,Bool.or_eq_true,beq_iff_eq] at h
   obtain ⟨e,he,hb,h⟩:=h
   have he':e ∈ o.after:=by simpa using he
   have hl:=hall e he' hb
   rcases h with rfl | h
   ·exact hl
   ·cases ho':ops[e.on]? with
    | none=>cases f <;> simp [dep,ho'] at h
    | some o'=>exact fZ hc f e.on o' ho' (fun e' he' hb'=>hc e.on o' hl ho' e' he' hb') h
theorem gC {listed:Array Bool} (hc:fk ops listed) {i:Nat} (hi:i ∈ Region.ready .any ops listed):fk ops (listed.setIfInBounds i true):=by
 intro k o hk ho e he hb
 obtain ⟨_,oi,hoi,hall⟩:=mem_ready.1 hi
 by_cases hki:i=k
 ·subst hki
  rw [hoi] at ho; cases ho
  exact getD_set_true (hall e he hb)
 ·exact getD_set_true (hc k o (by rwa [getD_set_ne false hki] at hk) ho e he hb)
theorem An (hok:Bm ds Ws) {j:Nat} {x y:DOp} (hy:ds[j]? = some y) (h:(!isW y.o.op || x.un.contains j)=true):∀ k ∈ wOf Ws j,k ∈ xOf Ws x.un:=by
 intro k hk
 cases hw:isW y.o.op with
 | true =>
   simp [hw] at h
   exact List.mem_flatMap.2 ⟨j,h,hk⟩
 | false=>rw [(hok j y hy).1 hw] at hk; cases hk
theorem ql (hS:∀ f,(S f).Ok P f) {i:Nat} {K K':List ab->List ac->Prop} (hk:∀ s l,K s l->K' s l) {sl:List ab} {lh:List ac} (h:aOp w0 S ds Ws n0 i K sl lh):aOp w0 S ds Ws n0 i K' sl lh:=by
 unfold aOp at *
 split at h
 ·exact hk _ _ h
 ·exact pV hS hk h
theorem E7 (hS:∀ f,(S f).Ok P f) (hw:Bm ds Ws) {i j:Nat} (hg:mZ ds i j=true) {K:List ab->List ac->Prop} {sl:List ab} {lh:List ac}
 (h:aOp w0 S ds Ws n0 i (aOp w0 S ds Ws n0 j K) sl lh):aOp w0 S ds Ws n0 j (aOp w0 S ds Ws n0 i K) sl lh:=by
 unfold mZ at hg
 split at hg
 ·rename_i x y hx hy
  simp only [Bool.and_eq_true] at hg
  obtain ⟨⟨⟨g1,g2⟩,g3⟩,g4⟩:=hg
  unfold aOp at h ⊢
  simp only [hx,hy] at h ⊢
  have s1:=An (x:=x) hw hy g3
  have s2:=An (x:=y) hw hx g4
  exact Rh hS g1 (by simpa using g2) s1 s2 (fun k hk hk'=>(hw i x hx).2 k hk (s1 k hk')) h
 ·cases hg
theorem yH (hS:∀ f,(S f).Ok P f) (hw:Bm ds Ws) (hp:pM ops ds=true) (hlen:ds.length=ops.size) {i:Nat}:∀ (fuel:Nat) (listed:Array Bool) (sl:List ab) (lh:List ac),fk ops listed->i ∈ Region.ready .any ops listed ->
 aOp w0 S ds Ws n0 i (A7 w0 S ops ds Ws n0 K fuel (listed.setIfInBounds i true)) sl lh->A7 w0 S ops ds Ws n0 K (fuel+1) listed sl lh:=by
 have good:∀ (listed:Array Bool) (j:Nat),fk ops listed->i ∈ Region.ready .any ops listed->j ∈ Region.ready .any ops listed->j ≠ i->mZ ds i j=true:=fun listed j hc hi hj hne=>by
  obtain ⟨ui,oi,hoi,ai⟩:=mem_ready.1 hi
  obtain ⟨uj,oj,hoj,aj⟩:=mem_ready.1 hj
  have li:i < ds.length:=by rw [hlen]; exact (Array.getElem?_eq_some_iff.1 hoi).1
  have lj:j < ds.length:=by rw [hlen]; exact (Array.getElem?_eq_some_iff.1 hoj).1
  simp only [pM,List.all_eq_true,List.mem_range] at hp
  have:=hp i li j lj
  simp only [Bool.or_eq_true,beq_iff_eq] at this
  have no:∀ {x:Nat},listed.getD x true=false->listed.getD x false=true->False:=fun {x} h1 h2=>by
   rcases Nat.lt_or_ge x listed.size with h | h
   ·simp [h] at h1 h2; rw [h1] at h2; cases h2
   ·simp [Array.getElem?_eq_none h] at h1
  rcases this with ((h | h) | h) | h
  ·exact (hne h.symm).elim
  ·exact (no uj (fZ hc _ i oi hoi ai h)).elim
  ·exact (no ui (fZ hc _ j oj hoj aj h)).elim
  ·exact h
 intro fuel
 induction fuel with
 | zero =>
   intro listed sl lh hc hi H
   refine ⟨fun h=>(by rw [h] at hi; cases hi),fun j hj=>?_⟩
   by_cases hji:j=i
   ·subst hji; exact H
   ·exfalso
    have hr:=ready_mono hj hji
    have hnil:Region.ready .any ops (listed.setIfInBounds i true)=[]:=by
     have:aOp w0 S ds Ws n0 i (fun _ _=>Region.ready .any ops (listed.setIfInBounds i true)=[]) sl lh:=ql hS (fun _ _ h=>h.1) H
     unfold aOp at this
     split at this
     ·exact this
     ·exact jG hS this
    rw [hnil] at hr; cases hr
 | succ fuel ih =>
   intro listed sl lh hc hi H
   refine ⟨fun h=>(by rw [h] at hi; cases hi),fun j hj=>?_⟩
   by_cases hji:j=i
   ·subst hji; exact H
   ·have h1:aOp w0 S ds Ws n0 i (aOp w0 S ds Ws n0 j (A7 w0 S ops ds Ws n0 K fuel ((listed.setIfInBounds i true).setIfInBounds j true))) sl lh :=
     ql hS (fun s l h=>h.2 j (ready_mono hj hji)) H
    have h2:=E7 hS hw (good listed j hc hi hj hji) h1
    refine ql hS (fun s l h=>ih _ s l (gC hc hj) (ready_mono hi (Ne.symm hji)) ?_) h2
    rw [Array.setIfInBounds_comm _ _ hji]
    exact h
def d9 (w0:World) (S:FuncId->bf) (Ws:List (List Nat)) (n0:Nat) (K:List ab->List ac->Prop):List DOp->Nat->List ab->List ac->Prop
 | [],_,sl,lh=>K sl lh
 | d::rest,i,sl,lh=>vcM w0 S (xOf Ws d.un) (wOf Ws i) (d.rk.map (n0+·)) d.o sl lh (d9 w0 S Ws n0 K rest (i+1))
theorem jf (hS:∀ f,(S f).Ok P f) (hw:Bm ds Ws) (hp:pM ops ds=true) (hlen:ds.length=ops.size):∀ (l:List DOp) (k:Nat) (listed:Array Bool) (sl:List ab) (lh:List ac),(∀ j,l[j]? = ds[k+j]?) ->
 wA ops l.length k listed=true->fk ops listed->d9 w0 S Ws n0 K l k sl lh->A7 w0 S ops ds Ws n0 K l.length listed sl lh
 | [],_,_,_,_,_,hB,_,h=>⟨by simpa [wA] using hB,h⟩
 | d::l,k,listed,sl,lh,hl,hB,hc,h=>by
   have h0:ds[k]? = some d:=by simpa using (hl 0).symm
   simp only [List.length_cons,wA,Bool.and_eq_true] at hB
   obtain ⟨hr,hB'⟩:=hB
   have hr':k ∈ Region.ready .any ops listed:=by simpa using hr
   refine yH hS hw hp hlen l.length listed sl lh hc hr' ?_
   unfold aOp
   simp only [h0]
   refine pV hS (fun s l' h=>?_) h
   exact jf hS hw hp hlen l (k+1) _ s l' (fun j=>by have:=hl (j+1); simpa [Nat.add_assoc,Nat.add_comm 1 j] using this) hB' (gC hc hr') h
end
end Go.Sx
namespace Go.Sx
mutual
def ren (τ:Nat->Nat):ab->ab
 | .ptr (some (.l k off))=>.ptr (some (.l (τ k) off))
 | .slice (some (.l k off)) n c=>.slice (some (.l (τ k) off)) n c
 | .fn f xs ys=>.fn f (qh τ xs) (qh τ ys)
 | .agg cs=>.agg (qh τ cs)
 | .tup cs=>.tup (qh τ cs)
 | a=>a
def qh (τ:Nat->Nat):List ab->List ab
 | []=>[]
 | a::l=>ren τ a::qh τ l
end
mutual
def inN (p:Nat->Prop):ab->Prop
 | .ptr (some (.l k _))=>p k
 | .slice (some (.l k _)) _ _=>p k
 | .fn _ xs ys=>fv p xs/\fv p ys
 | .agg cs=>fv p cs
 | .tup cs=>fv p cs
 | _=>True
def fv (p:Nat->Prop):List ab->Prop
 | []=>True
 | a::l=>inN p a/\fv p l
end
mutual
theorem xE {m m1:ao} {τ:Nat->Nat} {p:Nat->Prop} (h:∀ k b,p k->m (τ k)=some b->m1 k=some b):∀ (a:ab) (v:Value),inN p a->vrel m (ren τ a) v->vrel m1 a v
 | .int ..,_,_,hv=>by simp only [ren,vrel] at hv ⊢; exact hv
 | .bool ..,_,_,hv=>by simp only [ren,vrel] at hv ⊢; exact hv
 | .str ..,_,_,hv=>by simp only [ren,vrel] at hv ⊢; exact hv
 | .ptr none,_,_,hv=>by simp only [ren,vrel,bN] at hv ⊢; exact hv
 | .ptr (some (.g _)),_,_,hv=>by simp only [ren,vrel,bN] at hv ⊢; exact hv
 | .ptr (some (.l k off)),_,hp,hv=>by
   simp only [inN] at hp
   simp only [ren,vrel,bN] at hv ⊢
   obtain ⟨q,h1,b,h2,h3⟩:=hv
   exact ⟨q,h1,b,h k b hp h2,h3⟩
 | .slice none _ _,_,_,hv=>by simp only [ren,vrel,bN] at hv ⊢; exact hv
 | .slice (some (.g _)) _ _,_,_,hv=>by simp only [ren,vrel,bN] at hv ⊢; exact hv
 | .slice (some (.l k off)) _ _,_,hp,hv=>by
   simp only [inN] at hp
   simp only [ren,vrel,bN] at hv ⊢
   obtain ⟨q,h1,b,h2,h3⟩:=hv
   exact ⟨q,h1,b,h k b hp h2,h3⟩
 | .fn _ xs ys,_,hp,hv=>by
   simp only [inN] at hp
   simp only [ren,vrel] at hv ⊢; obtain ⟨us,vs,h1,h2,h3⟩:=hv; exact ⟨us,vs,h1,iF h xs _ hp.1 h2,iF h ys _ hp.2 h3⟩
 | .agg cs,_,hp,hv=>by simp only [inN] at hp; simp only [ren,vrel] at hv ⊢; obtain ⟨vs,h1,h2⟩:=hv; exact ⟨vs,h1,iF h cs _ hp h2⟩
 | .tup cs,_,hp,hv=>by simp only [inN] at hp; simp only [ren,vrel] at hv ⊢; obtain ⟨vs,h1,h2⟩:=hv; exact ⟨vs,h1,iF h cs _ hp h2⟩
 | .raw _,_,_,hv=>by simp only [ren,vrel] at hv ⊢; exact hv
 | .any,_,_,_=>by simp only [vrel]
theorem iF {m m1:ao} {τ:Nat->Nat} {p:Nat->Prop} (h:∀ k b,p k->m (τ k)=some b->m1 k=some b):∀ (az:List ab) (vs:List Value),fv p az->af m (qh τ az) vs->af m1 az vs
 | [],_,_,hv=>by simp only [qh,af] at hv ⊢; exact hv
 | a::az,_,hp,hv=>by
   simp only [fv] at hp
   simp only [qh,af] at hv ⊢; obtain ⟨u,us,h1,h2,h3⟩:=hv; exact ⟨u,us,h1,xE h a u hp.1 h2,iF h az us hp.2 h3⟩
end
def jj:List ab->List ab->Prop
 | [],[]=>True
 | a::l,a'::l'=>(a=.any ∨ a'=a)/\jj l l'
 | _,_=>False
theorem tz {m:ao}:∀ {l l':List ab} {vs:List Value},jj l l'->af m l' vs->af m l vs
 | [],[],_,_,h=>h
 | a::l,a'::l',vs,hs,h=>by
   simp only [jj] at hs
   simp only [af] at h ⊢
   obtain ⟨u,us,rfl,h1,h2⟩:=h
   refine ⟨u,us,rfl,?_,tz hs.2 h2⟩
   rcases hs.1 with rfl | rfl
   ·simp only [vrel]
   ·exact h1
 | [],_::_,_,h,_=>by simp [jj] at h
 | _::_,[],_,h,_=>by simp [jj] at h
def il (p:Nat->Prop) (τ:Nat->Nat):List ab->List ab->Prop
 | [],[]=>True
 | a::l,a'::l'=>(a=.any ∨ (inN p a/\a'=ren τ a))/\il p τ l l'
 | _,_=>False
theorem kW {m m1:ao} {p:Nat->Prop} {τ:Nat->Nat} (hm:∀ k b,p k->m (τ k)=some b->m1 k=some b):∀ {l l':List ab} {vs:List Value},il p τ l l'->af m l' vs->af m1 l vs
 | [],[],_,_,h=>by simp only [af] at h ⊢; exact h
 | a::l,a'::l',vs,hs,h=>by
   simp only [il] at hs
   simp only [af] at h ⊢
   obtain ⟨u,us,rfl,h1,h2⟩:=h
   refine ⟨u,us,rfl,?_,kW hm hs.2 h2⟩
   rcases hs.1 with rfl | ⟨h3,rfl⟩
   ·simp only [vrel]
   ·exact xE hm a u h3 h1
 | [],_::_,_,h,_=>by simp [il] at h
 | _::_,[],_,h,_=>by simp [il] at h
def isCells:Option ac->Bool
 | some (.cells ..)=>true
 | _=>false
def Cz (nb:Nat) (lh:List ac) (k:Nat):Prop:=k < nb ∨ isCells lh[k]? = true
structure PG (nb:Nat) (τ:Nat->Nat) (sl:List ab) (lh:List ac) (sl1:List ab) (lh1:List ac):Prop where
 fix:∀ k,k < nb->τ k=k
 len:nb<=lh1.length
 same:∀ k,k < nb->isCells lh1[k]? = false->lh1[k]? = lh[k]?
 slots:il (Cz nb lh1) τ sl1 sl
 heap:∀ k cs ty,lh1[k]? = some (.cells cs ty)->∃ cs',lh[τ k]? = some (.cells cs' ty)/\il (Cz nb lh1) τ cs cs'
 inj:∀ k k',isCells lh1[k]? = true->isCells lh1[k']? = true->τ k=τ k'->k=k'
def Sub (nb:Nat) (sl:List ab) (lh:List ac) (sl1:List ab) (lh1:List ac):Prop:=(lh1=lh/\jj sl1 sl) ∨ ∃ τ,PG nb τ sl lh sl1 lh1
def jr (nb:Nat) (lh:List ac) (m:ao) (lh':List ac) (m':ao):Prop :=
 (∀ k b,k < nb->m k=some b->m' k=some b)/\∀ k,k < nb->lh[k]? = some .hid->lh'[k]? = some .hid/\m' k=m k
theorem jr.refl (nb:Nat) (lh:List ac) (m:ao):jr nb lh m lh m:=⟨fun _ _ _ h=>h,fun _ _ h=>⟨h,rfl⟩⟩
theorem jr.trans {nb:Nat} {l1 l2 l3:List ac} {m1 m2 m3:ao} (h:jr nb l1 m1 l2 m2) (k:jr nb l2 m2 l3 m3):jr nb l1 m1 l3 m3 :=
 ⟨fun j b hj hb=>k.1 j b hj (h.1 j b hj hb),fun j hj hl=>⟨(k.2 j hj (h.2 j hj hl).1).1,((k.2 j hj (h.2 j hj hl).1).2).trans (h.2 j hj hl).2⟩⟩
theorem Ext.toN {lh lh':List ac} {m m':ao} (h:Ext lh m lh' m') (nb:Nat):jr nb lh m lh' m':=⟨fun k b _ hb=>h.1 k b hb,fun k _ hl=>h.2 k hl⟩
section
variable {B:bm}
theorem Sub.rel {nb:Nat} {m:ao} {sl sl1:List ab} {lh lh1:List ac} {a:Act} {w:World} (hs:Sub nb sl lh sl1 lh1) (h:gb B m sl lh a w) :
 ∃ m1,gb B m1 sl1 lh1 a w/\jr nb lh m lh1 m1:=by
 rcases hs with ⟨rfl,hs⟩ | ⟨τ,hs⟩
 ·exact ⟨m,⟨tz hs h.1,h.2.1,h.2.2⟩,jr.refl _ _ _⟩
 ·let m1 : ao:=fun k=>if k < nb then m k else if isCells lh1[k]? then m (τ k) else none
  have hm:∀ k b,Cz nb lh1 k->m (τ k)=some b->m1 k=some b:=fun k b hk hb=>by
   simp only [m1]
   split
   ·rename_i hlt; rw [hs.fix k hlt] at hb; exact hb
   ·rename_i hlt
    rcases hk with hk | hk
    ·exact (hlt hk).elim
    ·rw [if_pos hk]; exact hb
  have hm':∀ k b,m1 k=some b->m (τ k)=some b:=fun k b hb=>by
   simp only [m1] at hb
   split at hb
   ·rename_i hlt; rw [hs.fix k hlt]; exact hb
   ·split at hb
    ·exact hb
    ·cases hb
  obtain ⟨h1,h2,h3⟩:=h
  refine ⟨m1,⟨kW hm hs.slots h1,h2,⟨h3.os,h3.tape,h3.output,h3.size,h3.old,h3.fsize,h3.kept,fun k cs ty hk=>?_,fun k k' b cs cs' ty ty' g1 g2 hb hb'=>?_,fun k hk=>?_,fun k hk=>?_,fun k b hk=>h3.rng _ b (hm' k b hk)⟩⟩,fun k b hk hb=>?_,fun k hk hl=>?_⟩
  ·obtain ⟨cs',hl,hsub⟩:=hs.heap k cs ty hk
   obtain ⟨b,vs,hb,hvs,hh,hx⟩:=h3.loc (τ k) cs' ty hl
   exact ⟨b,vs,hm k b (.inr (by rw [hk]; rfl)) hb,kW hm hsub hvs,hh,hx⟩
  ·obtain ⟨c1,hl1,_⟩:=hs.heap k cs ty g1
   obtain ⟨c2,hl2,_⟩:=hs.heap k' cs' ty' g2
   exact hs.inj k k' (by rw [g1]; rfl) (by rw [g2]; rfl) (h3.inj _ _ b c1 c2 ty ty' hl1 hl2 (hm' k b hb) (hm' k' b hb'))
  ·have hn:¬ k < nb:=by have:=hs.len; omega
   simp only [m1]; rw [if_neg hn,List.getElem?_eq_none hk]; rfl
  ·simp only [m1]
   split
   ·rename_i hlt
    have:=hs.same k hlt (by rw [hk]; rfl)
    exact h3.dead k (by rw [← this]; exact hk)
   ·rw [hk]; rfl
  ·simp only [m1]; rw [if_pos hk]; exact hb
  ·have hc:isCells lh1[k]? = false:=by
    cases hc:isCells lh1[k]? with
    | false=>rfl
    | true =>
      exfalso
      generalize hg:lh1[k]? = g at hc
      cases g with
      | none=>cases hc
      | some ob=>cases ob with
        | cells cs ty =>
          obtain ⟨cs',hl',_⟩:=hs.heap k cs ty hg
          rw [hs.fix k hk,hl] at hl'; cases hl'
        | _=>cases hc
   exact ⟨by rw [hs.same k hk hc]; exact hl,by simp only [m1]; rw [if_pos hk]⟩
end
def G9:IOp->Bool
 | .new .. | .box .. | .bsl .. | .app .. | .mks ..=>true
 | _=>false
def pS:ab->List Nat
 | .ptr (some (.l k _))=>[k]
 | .slice (some (.l k _)) _ _=>[k]
 | _=>[]
def look (xs : List SOp) (rks:List (Option Nat)):Nat->Nat->Arg->List vU
 | 0,_,_=>[]
 | _+1,_,.k _=>[]
 | f + 1, n, .t s=>match (xs.take n).findIdx? (fun x=>x.dst == some s) with
   | none=>[.slot s]
   | some i => match xs[i]? with
     | none=>[]
     | some x=>match x.op with
       | .new .. | .box .. | .bsl .. | .mks ..=>(match rks.getD i none with | some r=>[.fresh r] | none=>[])
       | .fa _ a | .iaA _ _ a _ | .iaS _ a _ | .nz a | .mov a | .slS _ a ..=>look xs rks f i a
       | .app _ _ _ _ a _=>look xs rks f i a++(match rks.getD i none with | some r=>[.fresh r] | none=>[])
       | .ld (.t p)=>match (xs.take i).findIdx? (fun x=>x.dst == some p) with
         | none=>[.load p 0]
         | some j=>match xs[j]? with
           | some y=>match y.op with
             | .fa off (.t q)=>[.load q off]
             | _=>[]
           | none=>[]
       | _=>[]
def F9 (w0:World) (lh:List ac) (sl:List ab) (n0:Nat):vU->List Nat
 | .fresh r=>[n0+r]
 | .slot s=>pS (sl.getD s .any)
 | .load s off=>match sl.getD s .any with
   | .ptr (some p)=>match ld w0 lh (p.add off) with
     | some v=>pS v
     | none=>[]
   | _=>[]
def o9 (w0:World) (lh:List ac) (sl:List ab) (n0:Nat):List vU->List Nat
 | []=>[]
 | x::l=>F9 w0 lh sl n0 x++o9 w0 lh sl n0 l
def gN (w0:World) (lh:List ac) (sl:List ab) (n0:Nat):List DOp->List (List Nat)
 | []=>[]
 | d::l=>o9 w0 lh sl n0 d.ws::gN w0 lh sl n0 l
theorem kj (w0:World) (lh:List ac) (sl:List ab) (n0:Nat):∀ (l:List DOp) (i:Nat),(gN w0 lh sl n0 l).getD i []=match l[i]? with | some d=>o9 w0 lh sl n0 d.ws | none=>[]
 | [],i=>by simp [gN]
 | d::l,0=>by simp [gN]
 | d::l,i+1=>by simp only [gN,List.getElem?_cons_succ]; rw [← kj w0 lh sl n0 l i]; simp [List.getD]
def AR (k:Nat):List Nat->Prop
 | []=>True
 | x::l=>k ≠ x/\AR k l
def Di:List Nat->List Nat->Prop
 | [],_=>True
 | k::l,X=>AR k X/\Di l X
theorem tD {k:Nat}:∀ {l:List Nat},AR k l->k ∉ l
 | [],_=>by simp
 | x::l,h=>by simp only [AR] at h; simp only [List.mem_cons,not_or]; exact ⟨h.1,tD h.2⟩
theorem wd:∀ {l X:List Nat},Di l X->∀ k ∈ l,k ∉ X
 | [],_,_,k,hk=>by cases hk
 | x::l,X,h,k,hk=>by
   simp only [Di] at h
   rcases List.mem_cons.1 hk with rfl | hk
   ·exact tD h.1
   ·exact wd h.2 k hk
def wI (Ws:List (List Nat)):List DOp->Nat->Prop
 | [],_=>True
 | d::l,i=>Di (wOf Ws i) (xOf Ws d.un)/\wI Ws l (i+1)
theorem jW {ds:List DOp} {Ws:List (List Nat)}:∀ (l:List DOp) (k:Nat),(∀ j,l[j]? = ds[k+j]?)->wI Ws l k->∀ (i:Nat) (d:DOp),ds[k+i]? = some d->∀ x ∈ wOf Ws (k+i),x ∉ xOf Ws d.un
 | [],k,hl,_,i,d,hd=>by have:=hl i; rw [hd] at this; simp at this
 | e :: l,k,hl,h,i,d,hd=>by
   simp only [wI] at h
   cases i with
   | zero =>
     have h0:=hl 0
     simp only [Nat.add_zero] at hd h0 ⊢
     rw [hd] at h0; simp at h0; subst h0
     exact wd h.1
   | succ i =>
     have:=jW l (k+1) (fun j=>by have:=hl (j+1); simpa [Nat.add_assoc,Nat.add_comm 1 j] using this) h.2 i d (by rw [show k+1+i=k+(i+1) from by omega]; exact hd)
     rw [show k+1+i=k+(i+1) from by omega] at this
     exact this
def news (ds:List DOp):Nat:=(ds.filter fun d=>G9 d.o.op).length
def jT (w0:World) (S:FuncId->bf) (ds:List DOp) (sl:List ab) (lh:List ac) (K:List ab->List ac->Prop):Prop :=
 wI (gN w0 lh sl lh.length ds) ds 0/\d9 w0 S (gN w0 lh sl lh.length ds) lh.length K ds 0 sl (lh++List.replicate (news ds) .dead)
def bM:List SOp->Nat->List (Option Nat)
 | [],_=>[]
 | x::l,r=>if G9 x.op then some r::bM l (r+1) else none::bM l r
def fF (ops:Array Oper) (xs:List SOp) (rks:List (Option Nat)):List SOp->Nat->List DOp
 | [],_=>[]
 | x::l,i=>⟨x,rks.getD i none,(List.range xs.length).filter fun j=>j != i && (match xs[j]? with | some y=>isW y.op | none=>false) && !dep ops xs.length i j && !dep ops xs.length j i,
    match x.op with
    | .new .. | .box .. | .bsl .. | .mks ..=>(match rks.getD i none with | some r=>[.fresh r] | none=>[])
    | .st _ a _=>look xs rks 8 i a
    | .clr _ _ a=>look xs rks 8 i a
    | .app _ _ _ _ a _=>look xs rks 8 i a++(match rks.getD i none with | some r=>[.fresh r] | none=>[])
    | _=>[]⟩::fF ops xs rks l (i+1)
def eD (P:Program) (eqs:List TypeId) (ops:Array Oper):Option (List DOp) :=
 match bg P eqs ops ops.toList with
 | none=>none
 | some xs =>
   if P.follows .mixedOrders && pM ops (fF ops xs (bM xs 0) xs 0) && wA ops (fF ops xs (bM xs 0) xs 0).length 0 (Array.replicate ops.size false) && (fF ops xs (bM xs 0) xs 0).length == ops.size &&
    (fF ops xs (bM xs 0) xs 0).all (fun d=>isW d.o.op || d.ws.isEmpty) then some (fF ops xs (bM xs 0) xs 0) else none
theorem rh (ops:Array Oper) (xs:List SOp) (rks:List (Option Nat)):∀ (l:List SOp) (i j:Nat),(fF ops xs rks l i)[j]?.map DOp.o=l[j]?
 | [],_,_=>by simp [fF]
 | x::l,i,0=>by simp [fF]
 | x::l,i,j+1=>by simp only [fF,List.getElem?_cons_succ]; exact rh ops xs rks l _ j
section
variable {P:Program} {B:bm} {S:FuncId->bf} {eqs:List TypeId} {F:Fence} {n:Nat} {ops:Array Oper} {ds:List DOp} {Ws:List (List Nat)}
theorem jS:∀ (l:List Oper) (xs:List SOp) (j:Nat) (o:Oper),bg P eqs ops l=some xs->l[j]? = some o->∃ x,xs[j]? = some x/\fV P eqs ops o=some x
 | [],_,_,_,_,h=>by simp at h
 | a::l,xs,j,o,hc,h=>by
   simp only [bg] at hc
   split at hc
   ·rename_i x xs' hx hxs
    cases hc
    cases j with
    | zero=>simp at h; subst h; exact ⟨x,rfl,hx⟩
    | succ j=>exact jS l xs' j o hxs (by simpa using h)
   ·cases hc
theorem A5 (hF:Open F) (hS:∀ f,(S f).Ok P f) (hE:∀ t ∈ eqs,cm P t) {X W:List Nat} {pl:Option Nat} {o:Oper} {x:SOp} {i:Nat} (ho:ops[i]? = some o) (hx:fV P eqs ops o=some x)
 {K:List ab->List ac->Prop} {K':Act->World->Prop} {Q:Exit->Act->World->Prop} {sl:List ab} {lh:List ac} {m:ao} {a:Act} {w:World} (hs:gb B m sl lh a w) (h:vcM B.w0 S X W pl x sl lh K)
 (hK:∀ sl' lh' m' a' w',gb B m' sl' lh' a' w'->Ext lh m lh' m'->K sl' lh'->K' a' w'):wpOpIn F n P ops Q i K' a w:=by
 have hSS:∀ f,(S f).Sound P f:=fun f=>(hS f).sound
 have run:∀ {j:IOp} (hj:dU P eqs o=some j),x.op=j->x.dst=o.dst->vcI B.w0 S sl (hide X lh) pl (fun v l=>fJ W l (hide X lh)/\K (e9 x sl (.run v l)) (gi W lh (.run v l))) j ->
  o.wpIn F n P a w K' Q:=fun {j} hj e1 e2 hv=>by
  have hres:=j0 (B:=⟨B.w0,w,fun b=>∃ k cs ty,k ∉ X/\lh[k]? = some (.cells cs ty)/\m k=some b,B.ds⟩) hSS hE hj hs.1 (hs.2.2.hide X) hv
  refine d5 hF hj hres fun v w' ⟨r,m',lh',h1,h2,h3,h4,h5⟩=>?_
  obtain ⟨g1,g2⟩:=hs.2.2.unhide h3 h2 h4
  simp only [e9,e2] at h5
  exact hK _ _ m' _ _ (hs.put g2.1 g1 o.dst h1) g2 h5
 have skip:∀ (e2:x.dst=o.dst),K (e9 x sl .skip) lh->K' (a.put o.dst undef) w:=fun e2 hk=>by
  simp only [e9,e2] at hk
  exact hK _ _ m _ _ (hs.put (ao.le_refl m) hs.2.2 o.dst (by simp [vrel,af,undef])) (Ext.refl _ _) hk
 unfold wpOpIn
 simp only [ho]
 unfold vcM jq at h
 unfold fV at hx
 split at hx
 ·rename_i j hj hg
  cases hx
  dsimp only at h
  rw [if_pos (by simp [Region.wanted,hg])]
  exact run hj rfl rfl h
 ·rename_i j jg want hj hg
  split at hx
  ·rename_i d hd
   cases hx
   dsimp only at h
   obtain ⟨y1,y2,y3⟩:=rf (ops:=ops) hs.1 hd
   split at h
   ·rename_i b hb
    have hy:=y1 b hb
    by_cases hbw:b=want
    ·subst hbw
     rw [if_pos (by simp [Region.wanted,hg,hy])]
     exact run hj rfl rfl (h.1 rfl)
    ·rw [if_neg (by simp [Region.wanted,hg,hy,hbw])]
     exact ⟨fun f _=>hF.fn f,skip rfl (h.2 (by cases b <;> cases want <;> simp_all))⟩
   ·rename_i vs hb
    rw [if_neg (by simp [Region.wanted,hg,y2 _ hb])]
    exact ⟨fun f _=>hF.fn f,skip rfl h⟩
   ·rename_i hb
    rw [if_neg (by simp [Region.wanted,hg,y3 _ _ hb])]
    exact ⟨fun f _=>hF.fn f,skip rfl h⟩
   ·exact h.elim
  ·cases hx
 ·cases hx
theorem kU (hF:Open F) (hS:∀ f,(S f).Ok P f) (hE:∀ t ∈ eqs,cm P t) {n0:Nat} {xs:List SOp} (hc:bg P eqs ops ops.toList=some xs) (hd:∀ j:Nat,ds[j]?.map DOp.o=xs[j]?)
 {K:List ab->List ac->Prop} {Q:Exit->Act->World->Prop} {lh0:List ac} {m0:ao} (hQ:∀ sl' lh' m' a' w',gb B m' sl' lh' a' w'->Ext lh0 m0 lh' m'->K sl' lh'->Q .normal a' w') :
 ∀ (fuel:Nat) (listed:Array Bool) (sl:List ab) (lh:List ac) (m:ao) (a:Act) (w:World),gb B m sl lh a w->Ext lh0 m0 lh m->A7 B.w0 S ops ds Ws n0 K fuel listed sl lh->wpAnyIn F n P .any ops Q fuel listed a w
 | 0,_,_,_,_,_,_,hs,he,h=>⟨h.1,hQ _ _ _ _ _ hs he h.2⟩
 | fuel+1,listed,sl,lh,m,a,w,hs,he,h=>by
   refine ⟨fun hr=>hQ _ _ _ _ _ hs he (h.1 hr),fun i hi=>?_⟩
   have h2:=h.2 i hi
   obtain ⟨_,o,ho,_⟩:=mem_ready.1 hi
   obtain ⟨x,hx,hco⟩:=jS ops.toList xs i o hc (by simpa using ho)
   have hdi:=hd i
   rw [hx] at hdi
   simp only [Option.map_eq_some_iff] at hdi
   obtain ⟨d,hd1,hd2⟩:=hdi
   unfold aOp at h2
   simp only [hd1] at h2
   rw [hd2] at h2
   exact A5 hF hS hE ho hco hs h2 fun sl' lh' m' a' w' h3 h4 h5=>kU hF hS hE hc hd hQ fuel _ sl' lh' m' a' w' h3 (he.trans h4) h5
theorem aw.deads {m:ao} {lh:List ac} {w:World} (h:aw B m lh w) (k:Nat):aw B m (lh++List.replicate k .dead) w:=by
 have hg:∀ j o,(lh++List.replicate k ac.dead)[j]? = some o->lh[j]? = some o ∨ (lh.length<=j/\o=.dead):=fun j o hj=>by
  rw [List.getElem?_append] at hj
  split at hj
  ·exact .inl hj
  ·rename_i hlt
   right
   rw [List.getElem?_replicate] at hj
   split at hj
   ·cases hj; exact ⟨by omega,rfl⟩
   ·cases hj
 refine ⟨h.os,h.tape,h.output,h.size,h.old,h.fsize,h.kept,fun j cs ty hj=>?_,fun j j' b cs cs' ty ty' h1 h2 hb hb'=>?_,fun j hj=>h.dom j (by simp at hj; omega),fun j hj=>?_,h.rng⟩
 ·rcases hg j _ hj with hl | ⟨_,e⟩
  ·exact h.loc j cs ty hl
  ·cases e
 ·rcases hg j _ h1 with hl | ⟨_,e⟩
  ·rcases hg j' _ h2 with hl' | ⟨_,e⟩
   ·exact h.inj j j' b cs cs' ty ty' hl hl' hb hb'
   ·cases e
  ·cases e
 ·rcases hg j _ hj with hl | ⟨hle,_⟩
  ·exact h.dead j hl
  ·exact h.dom j hle
theorem mv (hF:Open F) (hS:∀ f,(S f).Ok P f) (hE:∀ t ∈ eqs,cm P t) {id:Nat} (hc:eD P eqs ops=some ds) {K:List ab->List ac->Prop} {Q:Exit->Act->World->Prop} {sl:List ab} {lh:List ac} {m:ao} {a:Act} {w:World}
 (hs:gb B m sl lh a w) (h:jT B.w0 S ds sl lh K) (hQ:∀ sl' lh' m' a' w',gb B m' sl' lh' a' w'->Ext lh m lh' m'->K sl' lh'->Q .normal a' w'):(Code.region id ops true).wpIn F n P Q a w:=by
 unfold eD at hc
 split at hc
 ·cases hc
 ·rename_i xs hxs
  split at hc
  ·rename_i hcond
   cases hc
   simp only [Bool.and_eq_true,beq_iff_eq] at hcond
   obtain ⟨⟨⟨⟨h1,h2⟩,h3⟩,h4⟩,h5⟩:=hcond
   obtain ⟨hw,ht⟩:=h
   have hw':Bm (fF ops xs (bM xs 0) xs 0) (gN B.w0 lh sl lh.length (fF ops xs (bM xs 0) xs 0)):=fun i d hd=>by
    refine ⟨fun hnw=>?_,?_⟩
    ·unfold wOf
     rw [kj,hd]
     have:=List.all_eq_true.1 h5 d (List.mem_of_getElem? hd)
     simp [hnw] at this
     simp [this,o9]
    ·have:=jW (ds:=fF ops xs (bM xs 0) xs 0) (fF ops xs (bM xs 0) xs 0) 0 (fun j=>by simp) hw i d (by simpa using hd)
     simpa using this
   generalize gN B.w0 lh sl lh.length (fF ops xs (bM xs 0) xs 0)=Ws at hw ht hw'
   refine wpIn_region_any h1 ?_
   have hcl:fk ops (Array.replicate ops.size false):=fun k o hk=>by
    simp [Array.getElem?_replicate] at hk
    split at hk <;> simp at hk
   have hany:=jf hS hw' h2 h4 (fF ops xs (bM xs 0) xs 0) 0 _ sl _ (fun j=>by simp) h3 hcl ht
   rw [← h4]
   have hext:Ext lh m (lh++List.replicate (news (fF ops xs (bM xs 0) xs 0)) .dead) m:=⟨ao.le_refl m,fun k hk=>⟨by rw [List.getElem?_append_left (List.getElem?_eq_some_iff.1 hk).1]; exact hk,rfl⟩⟩
   rw [h4] at hany ⊢
   exact kU hF hS hE hxs (rh ops xs (bM xs 0) xs 0) hQ _ _ sl _ m a _ ⟨hs.1,hs.2.1,(hs.2.2.deads _).drew _⟩ hext hany
  ·cases hc
end
end Go.Sx
namespace Go.Sx
inductive OT where
 | done
 | op (o:SOp) (r:OT)
 | alt (a b:OT)
def nZ (w0:World) (S:FuncId->bf):OT->List ab->List ac->(List ab->List ac->Prop)->Prop
 | .done,sl,lh,K=>K sl lh
 | .op o r,sl,lh,K=>cM w0 S [o] sl lh fun sl lh=>nZ w0 S r sl lh K
 | .alt a b,sl,lh,K=>nZ w0 S a sl lh K/\nZ w0 S b sl lh K
def ou:IOp->Bool
 | .mov _ | .fa .. | .len _=>true
 | _=>false
def pv (sl:List ab):IOp->Option ab
 | .mov x=>some (arg sl x)
 | .fa off x=>match arg sl x with
   | .ptr (some p)=>some (.ptr (some (p.add off)))
   | _=>none
 | .len x=>match arg sl x with
   | .slice _ n _=>some (.int .i64 n)
   | _=>none
 | _=>none
section
variable {w0:World} {S:FuncId->bf} {sl sl':List ab} {lh:List ac} {P:Program}
theorem xJ {op:IOp} {K:ab->List ac->Prop} (h:ou op=true):vcI w0 S sl lh none K op ↔ ∃ v,pv sl op=some v/\K v lh:=by
 cases op <;> simp only [ou,Bool.false_eq_true] at h <;> simp only [vcI,pv]
 case mov x=>exact ⟨fun h=>⟨_,rfl,h⟩,fun ⟨_,e,h⟩=>by cases e; exact h⟩
 case fa off x =>
  generalize arg sl x=y
  match y with
  | .ptr (some p)=>exact ⟨fun h=>⟨_,rfl,h⟩,fun ⟨_,e,h⟩=>by cases e; exact h⟩
  | .ptr none | .int .. | .bool _ | .str _ | .slice .. | .fn .. | .agg _ | .tup _ | .raw _ | .any=>exact ⟨fun h=>h.elim,fun ⟨_,e,_⟩=>by cases e⟩
 case len x =>
  generalize arg sl x=y
  match y with
  | .slice ..=>exact ⟨fun h=>⟨_,rfl,h⟩,fun ⟨_,e,h⟩=>by cases e; exact h⟩
  | .ptr _ | .int .. | .bool _ | .str _ | .fn .. | .agg _ | .tup _ | .raw _ | .any=>exact ⟨fun h=>h.elim,fun ⟨_,e,_⟩=>by cases e⟩
theorem Dh {op:IOp} (h:∀ x ∈ op.args,arg sl x=arg sl' x):pv sl op=pv sl' op:=by
 cases op <;> simp only [IOp.args,List.mem_cons,List.not_mem_nil,or_false,forall_eq_or_imp,forall_eq] at h <;> simp only [pv]
 all_goals rw [h]
end
def Dk (g:Nat->Option OT):List Nat->Option OT
 | []=>some .done
 | [i]=>g i
 | i::j::l=>match g i,Dk g (j::l) with
   | some a,some b=>some (.alt a b)
   | _,_=>none
def De (xs:List SOp) (i:Nat):Bool:=match xs[i]? with
 | some x=>ou x.op
 | none=>false
def BK (ops:Array Oper) (xs:List SOp):Nat->Array Bool->Option OT
 | 0,listed=>if (Region.ready .any ops listed).isEmpty then some .done else none
 | f + 1,listed=>match (Region.ready .any ops listed).find? (De xs) with
   | some j=>match xs[j]?,BK ops xs f (listed.setIfInBounds j true) with
     | some x,some t=>some (.op x t)
     | _,_=>none
   | none=>Dk (fun i=>match xs[i]?,BK ops xs f (listed.setIfInBounds i true) with
     | some x,some t=>some (.op x t)
     | _,_=>none) (Region.ready .any ops listed)
def kn (ops:Array Oper) (xs:List SOp):Bool :=
 (List.range xs.length).all fun i=>(List.range xs.length).all fun j=>i == j || dep ops xs.length i j || dep ops xs.length j i || (match xs[i]?,xs[j]? with
   | some x,some y=>!ou x.op || nO x y
   | _,_=>false)
def Fh (xs:List SOp):Bool:=xs.any fun x=>match x.op with
 | .len (.t d)=>xs.any fun y=>y.dst == some d && match y.op with
   | .call ..=>true
   | _=>false
 | _=>false
def uS (P:Program) (eqs:List TypeId) (ops:Array Oper):Option OT :=
 match bg P eqs ops ops.toList with
 | none=>none
 | some xs=>if P.follows .mixedOrders && (xs.all (fun x=>x.guard.isNone) && (Fh xs && (kn ops xs && xs.length == ops.size))) then BK ops xs ops.size (Array.replicate ops.size false) else none
section
variable {P:Program} {S:FuncId->bf} {w0:World} {ops:Array Oper} {xs:List SOp} {K:List ab->List ac->Prop}
def CR (w0:World) (S:FuncId->bf) (ops:Array Oper) (xs:List SOp) (K:List ab->List ac->Prop):Nat->Array Bool->List ab->List ac->Prop
 | 0,listed,sl,lh=>Region.ready .any ops listed=[]/\K sl lh
 | fuel+1,listed,sl,lh=>(Region.ready .any ops listed=[]->K sl lh) /\
    ∀ i ∈ Region.ready .any ops listed,∀ x,xs[i]? = some x->vcI w0 S sl lh none (fun v l=>CR w0 S ops xs K fuel (listed.setIfInBounds i true) (cA sl x.dst v) l) x.op
theorem DF {x:Arg} {d:Option Nat} {sl:List ab} {v:ab} (h:∀ t,d=some t->t ∉ mt [x]):arg (cA sl d v) x=arg sl x:=by
 cases x with
 | k a=>rfl
 | t i =>
   simp only [arg]
   exact ny fun e=>h i e (by simp [mt])
theorem te {x:SOp} {d:Option Nat} {sl:List ab} {v:ab} (h:∀ t,d=some t->t ∉ x.reads):∀ y ∈ x.op.args,arg (cA sl d v) y=arg sl y:=fun y hy=>DF fun t ht hm=>h t ht (by
 cases y with
 | k a=>simp [mt] at hm
 | t i =>
   simp [mt] at hm
   subst hm
   exact List.mem_append_left _ (List.mem_filterMap.2 ⟨_,hy,rfl⟩))
theorem yC (hS:∀ f,(S f).Ok P f) (hp:kn ops xs=true) (hlen:xs.length=ops.size) {i:Nat} {x:SOp} (hx:xs[i]? = some x) (hpx:ou x.op=true):∀ (fuel:Nat) (listed:Array Bool) (sl:List ab) (lh:List ac),fk ops listed->i ∈ Region.ready .any ops listed ->
 vcI w0 S sl lh none (fun v l=>CR w0 S ops xs K fuel (listed.setIfInBounds i true) (cA sl x.dst v) l) x.op->CR w0 S ops xs K (fuel+1) listed sl lh:=by
 have good:∀ (listed:Array Bool) (j:Nat) (y:SOp),fk ops listed->i ∈ Region.ready .any ops listed->j ∈ Region.ready .any ops listed->j ≠ i->xs[j]? = some y->nO x y=true:=fun listed j y hc hi hj hne hy=>by
  obtain ⟨ui,oi,hoi,ai⟩:=mem_ready.1 hi
  obtain ⟨uj,oj,hoj,aj⟩:=mem_ready.1 hj
  have li:i < xs.length:=by rw [hlen]; exact (Array.getElem?_eq_some_iff.1 hoi).1
  have lj:j < xs.length:=by rw [hlen]; exact (Array.getElem?_eq_some_iff.1 hoj).1
  simp only [kn,List.all_eq_true,List.mem_range] at hp
  have:=hp i li j lj
  simp only [Bool.or_eq_true,beq_iff_eq,hx,hy,hpx] at this
  have no:∀ {x:Nat},listed.getD x true=false->listed.getD x false=true->False:=fun {x} h1 h2=>by
   rcases Nat.lt_or_ge x listed.size with h | h
   ·simp [h] at h1 h2; rw [h1] at h2; cases h2
   ·simp [Array.getElem?_eq_none h] at h1
  rcases this with ((h | h) | h) | h
  ·exact (hne h.symm).elim
  ·exact (no uj (fZ hc _ i oi hoi ai h)).elim
  ·exact (no ui (fZ hc _ j oj hoj aj h)).elim
  ·simpa using h
 intro fuel
 induction fuel with
 | zero =>
   intro listed sl lh hc hi H
   refine ⟨fun h=>(by rw [h] at hi; cases hi),fun j hj y hy=>?_⟩
   by_cases hji:j=i
   ·subst hji; rw [hx] at hy; cases hy; exact H
   ·exfalso
    have hr:=ready_mono hj hji
    obtain ⟨v,_,H⟩:=(xJ hpx).1 H
    have hnil:=H.1
    rw [hnil] at hr; cases hr
 | succ fuel ih =>
   intro listed sl lh hc hi H
   refine ⟨fun h=>(by rw [h] at hi; cases hi),fun j hj y hy=>?_⟩
   by_cases hji:j=i
   ·subst hji; rw [hx] at hy; cases hy; exact H
   ·obtain ⟨v,hv,H⟩:=(xJ hpx).1 H
    obtain ⟨a1,a2,a3⟩:=oN (good listed j y hc hi hj hji hy)
    have h1:=H.2 j (ready_mono hj hji) y hy
    rw [nQ (sl':=sl) (te (fun t ht=>a1 t ht))] at h1
    refine cW hS (fun u l h=>?_) h1
    refine ih _ _ l (gC hc hj) (ready_mono hi (Ne.symm hji)) ?_
    rw [xJ hpx]
    refine ⟨v,?_,?_⟩
    ·rw [Dh (sl':=sl) (te (fun t ht=>a3 t ht))]; exact hv
    ·rw [Array.setIfInBounds_comm _ _ hji,tH (d:=y.dst) (d':=x.dst) (fun k hk hk'=>a2 k hk' hk)]
     exact h
theorem wU {g:Nat->Option OT} {sl:List ab} {lh:List ac}:∀ {l:List Nat} {t:OT},Dk g l=some t->nZ w0 S t sl lh K->∀ i ∈ l,∃ u,g i=some u/\nZ w0 S u sl lh K
 | [],_,_,_,i,hi=>by cases hi
 | [j],t,h,hv,i,hi=>by simp at hi; subst hi; exact ⟨t,h,hv⟩
 | j::k::l,t,h,hv,i,hi=>by
   simp only [Dk] at h
   split at h
   ·rename_i a b ha hb
    cases h
    rcases List.mem_cons.1 hi with rfl | hi
    ·exact ⟨a,ha,hv.1⟩
    ·exact wU hb hv.2 i hi
   ·cases h
theorem ue (hS:∀ f,(S f).Ok P f) (hp:kn ops xs=true) (hg:xs.all (fun x=>x.guard.isNone)=true) (hlen:xs.length=ops.size):∀ (fuel:Nat) (listed:Array Bool) (sl:List ab) (lh:List ac) (t:OT),fk ops listed->BK ops xs fuel listed=some t->nZ w0 S t sl lh K->CR w0 S ops xs K fuel listed sl lh
 | 0,listed,sl,lh,t,hc,ht,hv=>by
   simp only [BK] at ht
   split at ht
   ·rename_i he; cases ht; exact ⟨by simpa using he,hv⟩
   ·cases ht
 | fuel+1,listed,sl,lh,t,hc,ht,hv=>by
   have one:∀ (x:SOp) (j:Nat),xs[j]? = some x->∀ {K:List ab->List ac->Prop},cM w0 S [x] sl lh K->vcI w0 S sl lh none (fun v l=>K (cA sl x.dst v) l) x.op:=fun x j hx K h=>by
    have hgx:x.guard=none:=by have:=List.all_eq_true.1 hg x (List.mem_of_getElem? hx); simpa using this
    simp only [cM,hgx] at h
    exact h
   simp only [BK] at ht
   split at ht
   ·rename_i j hj
    split at ht
    ·rename_i x u hx hu
     cases ht
     have hjr:=List.mem_of_find?_eq_some hj
     have hjp:ou x.op=true:=by have:=List.find?_some hj; simpa [De,hx] using this
     refine yC hS hp hlen hx hjp fuel listed sl lh hc hjr ?_
     exact cW hS (fun v l h=>ue hS hp hg hlen fuel _ _ l u (gC hc hjr) hu h) (one x j hx hv)
    ·cases ht
   ·rename_i hnone
    refine ⟨fun hr=>?_,fun i hi x hx=>?_⟩
    ·rw [hr] at ht; simp only [Dk,Option.some.injEq] at ht; subst ht; exact hv
    ·obtain ⟨u,hu,hvu⟩:=wU ht hv i hi
     rw [hx] at hu
     split at hu
     ·rename_i x' r e1 hr
      cases e1
      cases hu
      exact cW hS (fun v l h=>ue hS hp hg hlen fuel _ _ l r (gC hc hi) hr h) (one x i hx hvu)
     ·cases hu
end
section
variable {P:Program} {S:FuncId->bf} {eqs:List TypeId} {B:bm} {F:Fence} {n:Nat} {ops:Array Oper}
theorem rE (hF:Open F) (hS:∀ f,(S f).Ok P f) (hE:∀ t ∈ eqs,cm P t) {xs:List SOp} (hc:bg P eqs ops ops.toList=some xs) (hg:xs.all (fun x=>x.guard.isNone)=true)
 {K:List ab->List ac->Prop} {Q:Exit->Act->World->Prop} {lh0:List ac} {m0:ao} (hQ:∀ sl' lh' m' a' w',gb B m' sl' lh' a' w'->Ext lh0 m0 lh' m'->K sl' lh'->Q .normal a' w') :
 ∀ (fuel:Nat) (listed:Array Bool) (sl:List ab) (lh:List ac) (m:ao) (a:Act) (w:World),gb B m sl lh a w->Ext lh0 m0 lh m->CR B.w0 S ops xs K fuel listed sl lh->wpAnyIn F n P .any ops Q fuel listed a w
 | 0,_,_,_,_,_,_,hs,he,h=>⟨h.1,hQ _ _ _ _ _ hs he h.2⟩
 | fuel+1,listed,sl,lh,m,a,w,hs,he,h=>by
   have hSS:∀ f,(S f).Sound P f:=fun f=>(hS f).sound
   refine ⟨fun hr=>hQ _ _ _ _ _ hs he (h.1 hr),fun i hi=>?_⟩
   obtain ⟨_,o,ho,_⟩:=mem_ready.1 hi
   obtain ⟨x,hx,hco⟩:=jS ops.toList xs i o hc (by simpa using ho)
   have h2:=h.2 i hi x hx
   have hgx:x.guard=none:=by have:=List.all_eq_true.1 hg x (List.mem_of_getElem? hx); simpa using this
   unfold wpOpIn
   simp only [ho]
   unfold fV at hco
   split at hco
   ·rename_i j hj hgo
    cases hco
    rw [if_pos (by simp [Region.wanted,hgo])]
    refine d5 hF hj (j0 hSS hE hj hs.1 hs.2.2 h2) fun v w' ⟨r,m',lh',h3,h4,h5,h6⟩=>?_
    exact rE hF hS hE hc hg hQ fuel _ _ _ m' _ _ (hs.put h4.1 h5 o.dst h3) (he.trans h4) h6
   ·split at hco
    ·cases hco; cases hgx
    ·cases hco
   ·cases hco
theorem xO (hF:Open F) (hS:∀ f,(S f).Ok P f) (hE:∀ t ∈ eqs,cm P t) {id:Nat} {t:OT} (hc:uS P eqs ops=some t) {K:List ab->List ac->Prop} {Q:Exit->Act->World->Prop} {sl:List ab} {lh:List ac} {m:ao} {a:Act} {w:World}
 (hs:gb B m sl lh a w) (h:nZ B.w0 S t sl lh K) (hQ:∀ sl' lh' m' a' w',gb B m' sl' lh' a' w'->Ext lh m lh' m'->K sl' lh'->Q .normal a' w'):(Code.region id ops true).wpIn F n P Q a w:=by
 unfold uS at hc
 split at hc
 ·cases hc
 ·rename_i xs hxs
  split at hc
  ·rename_i hcond
   simp only [Bool.and_eq_true,beq_iff_eq] at hcond
   obtain ⟨h1,h2,_,h4,h5⟩:=hcond
   refine wpIn_region_any h1 ?_
   have hcl:fk ops (Array.replicate ops.size false):=fun k o hk=>by
    simp [Array.getElem?_replicate] at hk
    split at hk <;> simp at hk
   have hall:=ue hS h4 h2 h5 ops.size _ sl lh t hcl hc h
   exact rE hF hS hE hxs h2 hQ _ _ sl lh m a _ ⟨hs.1,hs.2.1,hs.2.2.drew _⟩ (Ext.refl _ _) hall
  ·cases hc
end
end Go.Sx
namespace Go.Sx
inductive mg where
 | op (o:SOp)
 | yld (t:Nat) (dst:Option Nat) (xs:List Arg)
inductive eI where
 | skip
 | reg (ops:List mg)
 | draw (ds:List DOp)
 | seq (a b:eI)
 | cond (c:Arg) (a b:eI)
 | block (id:Nat) (b:eI)
 | loop (b:eI)
 | exit (id:Nat)
 | ret
 | scope (b:eI)
structure fm where
 f:FuncId
 ntmps:Nat
 body:eI
inductive dt where
 | skip
 | reg (ops:List SOp)
 | draw (ds:List DOp)
 | allo (t:OT)
 | seq (a b:dt)
 | cond (c:Arg) (a b:dt)
 | block (id:Nat) (b:dt)
 | loop (b:dt)
 | exit (id:Nat)
 | ret
 | scope (b:dt)
 | range (g:Arg) (ps:List Nat) (asg body:dt) (its:List fm)
def sW (o:Oper):Option (Nat × List Arg) :=
 match o.guard,o.op with
 | none,.call c=>match c.callee with
   | .value (.tmp t)=>some (t,c.args.toList.map aD)
   | _=>none
 | _,_=>none
def iK (P:Program) (eqs:List TypeId) (ops:Array Oper):List Oper->Option (List mg)
 | []=>some []
 | o :: l=>match iK P eqs ops l with
   | none=>none
   | some xs=>match sW o with
     | some (t,az)=>some (.yld t o.dst az::xs)
     | none=>match fV P eqs ops o with
       | some x=>some (.op x::xs)
       | none=>none
def fy (P:Program) (eqs:List TypeId):Code->Option eI
 | .skip=>some .skip
 | .label _=>some .skip
 | .region _ ops false=>(iK P eqs ops ops.toList).map .reg
 | .region _ ops true=>(eD P eqs ops).map .draw
 | .seq a b=>match fy P eqs a,fy P eqs b with
   | some x,some y=>some (.seq x y)
   | _,_=>none
 | .cond c a b=>match fy P eqs a,fy P eqs b with
   | some x,some y=>some (.cond (aD c) x y)
   | _,_=>none
 | .block id b=>(fy P eqs b).map (.block id)
 | .loop b=>(fy P eqs b).map .loop
 | .exit id=>some (.exit id)
 | .ret=>some .ret
 | .scope b=>(fy P eqs b).map .scope
 | _=>none
def xv (P:Program) (eqs:List TypeId) (fn:Func):Option (Nat × eI) :=
 match fn.body,fn.results.toList with
 | some c,[]=>(fy P eqs c).map fun x=>(fn.ntmps,x)
 | _,_=>none
def cn:dt->Bool
 | .seq a b=>cn a && cn b
 | .cond _ a b=>cn a && cn b
 | .block _ b=>cn b
 | .loop b=>cn b
 | .scope b=>cn b
 | .range ..=>false
 | _=>true
def bI (P:Program) (eqs:List TypeId) (its:List fm):Code->Option dt
 | .skip=>some .skip
 | .label _=>some .skip
 | .region _ ops false=>(bg P eqs ops ops.toList).map .reg
 | .region _ ops true=>match uS P eqs ops with
   | some t=>some (.allo t)
   | none=>(eD P eqs ops).map .draw
 | .seq a b=>match bI P eqs its a,bI P eqs its b with
   | some x,some y=>some (.seq x y)
   | _,_=>none
 | .cond c a b=>match bI P eqs its a,bI P eqs its b with
   | some x,some y=>some (.cond (aD c) x y)
   | _,_=>none
 | .block id b=>(bI P eqs its b).map (.block id)
 | .loop b=>(bI P eqs its b).map .loop
 | .exit id=>some (.exit id)
 | .ret=>some .ret
 | .scope b=>(bI P eqs its b).map .scope
 | .rangeFunc g ps a b=>match bI P eqs its a,bI P eqs its b with
   | some x,some y=>if cn x && cn y then some (.range (aD g) ps.toList x y its) else none
   | _,_=>none
 | _=>none
def pc (next:List ab->List ac->Prop) (Q:Ex->List ab->List ac->Prop):Ex->List ab->List ac->Prop
 | .normal,sl,lh=>next sl lh
 | .exit i,sl,lh=>Q (.exit i) sl lh
 | .ret,sl,lh=>Q .ret sl lh
def rb (id:Nat) (Q:Ex->List ab->List ac->Prop):Ex->List ab->List ac->Prop
 | .normal,sl,lh=>Q .normal sl lh
 | .exit i,sl,lh=>if i=id then Q .normal sl lh else Q (.exit i) sl lh
 | .ret,sl,lh=>Q .ret sl lh
def xq:List fm->FuncId->Option fm
 | [],_=>none
 | x::l,f=>if f=x.f then some x else xq l f
def jP (l:Nat):ab:=.raw (.func (.yield l) #[] #[])
def gL:List ab->List Nat->List ab->List ab
 | sl,p::ps,x::xs=>gL (sl.set p x) ps xs
 | sl,_,_=>sl
abbrev YH:=List ab->List ac->(Ex->List ac->Prop)->Prop
abbrev IQ:=Ex->List ab->List ac->Option Ex->Prop
def Q9 (K:List ab->List ac->Option Ex->Prop) (sl:List ab) (d:Option Nat):Ex->List ac->Prop
 | .normal,lh=>K (cA sl d (.bool true)) lh none
 | x,lh=>K (cA sl d (.bool false)) lh (some x)
def cN (w0:World) (S:FuncId->bf) (l:Nat) (Y:YH):List mg->List ab->List ac->Option Ex->(List ab->List ac->Option Ex->Prop)->Prop
 | [],sl,lh,g,K=>K sl lh g
 | .op o::rest,sl,lh,g,K=>cM w0 S [o] sl lh fun sl lh=>cN w0 S l Y rest sl lh g K
 | .yld t d xs::rest,sl,lh,g,K=>g=none/\sl.getD t .any=jP l/\Y (xs.map (arg sl)) lh (Q9 (fun sl lh g=>cN w0 S l Y rest sl lh g K) sl d)
def Hb (next:List ab->List ac->Option Ex->Prop) (Q:IQ):IQ
 | .normal,sl,lh,g=>next sl lh g
 | .exit i,sl,lh,g=>Q (.exit i) sl lh g
 | .ret,sl,lh,g=>Q .ret sl lh g
def qL (id:Nat) (Q:IQ):IQ
 | .normal,sl,lh,g=>Q .normal sl lh g
 | .exit i,sl,lh,g=>if i=id then Q .normal sl lh g else Q (.exit i) sl lh g
 | .ret,sl,lh,g=>Q .ret sl lh g
def gy (w0:World) (S:FuncId->bf) (l:Nat) (Y:YH):eI->List ab->List ac->Option Ex->IQ->Prop
 | .skip,sl,lh,g,Q=>Q .normal sl lh g
 | .reg ops,sl,lh,g,Q=>cN w0 S l Y ops sl lh g (Q .normal)
 | .draw ds,sl,lh,g,Q=>jT w0 S ds sl lh fun sl lh=>Q .normal sl lh g
 | .seq a b,sl,lh,g,Q=>gy w0 S l Y a sl lh g (Hb (fun sl lh g=>gy w0 S l Y b sl lh g Q) Q)
 | .cond c a b,sl,lh,g,Q=>match arg sl c with
   | .bool t=>(t=true->gy w0 S l Y a sl lh g Q)/\(t=false->gy w0 S l Y b sl lh g Q)
   | _=>False
 | .block id b,sl,lh,g,Q=>gy w0 S l Y b sl lh g (qL id Q)
 | .loop b,sl,lh,g,Q=>∃ (ι:Type) (shs:ι->List ab) (shl:ι->List ac) (shg:ι->Option Ex) (μ:ι->Nat) (i0:ι),sl=shs i0/\lh=shl i0/\g=shg i0 /\
    ∀ i,gy w0 S l Y b (shs i) (shl i) (shg i) (Hb (fun sl' lh' g'=>∃ i',sl'=shs i'/\lh'=shl i'/\g'=shg i'/\μ i' < μ i) Q)
 | .exit id,sl,lh,g,Q=>Q (.exit id) sl lh g
 | .ret,sl,lh,g,Q=>Q .ret sl lh g
 | .scope b,sl,lh,g,Q=>gy w0 S l Y b sl lh g Q
def MX (Q:Ex->List ab->List ac->Prop) (sl:List ab):IQ
 | .exit _,_,_,_=>False
 | _,_,lh,none=>Q .normal sl lh
 | _,_,lh,some x=>Q x sl lh
def bj (w0:World) (S:FuncId->bf) (nb:Nat):dt->List ab->List ac->(Ex->List ab->List ac->Prop)->Prop
 | .skip,sl,lh,Q=>Q .normal sl lh
 | .reg ops,sl,lh,Q=>cM w0 S ops sl lh (Q .normal)
 | .draw ds,sl,lh,Q=>jT w0 S ds sl lh (Q .normal)
 | .allo t,sl,lh,Q=>nZ w0 S t sl lh (Q .normal)
 | .seq a b,sl,lh,Q=>bj w0 S nb a sl lh (pc (fun sl lh=>bj w0 S nb b sl lh Q) Q)
 | .cond c a b,sl,lh,Q=>match arg sl c with
   | .bool t=>(t=true->bj w0 S nb a sl lh Q)/\(t=false->bj w0 S nb b sl lh Q)
   | _=>False
 | .block id b,sl,lh,Q=>bj w0 S nb b sl lh (rb id Q)
 | .loop b,sl,lh,Q=>∃ (ι:Type) (shs:ι->List ab) (shl:ι->List ac) (μ:ι->Nat) (i0:ι),Sub nb sl lh (shs i0) (shl i0) /\
    ∀ i,bj w0 S nb b (shs i) (shl i) (pc (fun sl' lh'=>∃ i',Sub nb sl' lh' (shs i') (shl i')/\μ i' < μ i) Q)
 | .exit id,sl,lh,Q=>Q (.exit id) sl lh
 | .ret,sl,lh,Q=>Q .ret sl lh
 | .scope b,sl,lh,Q=>bj w0 S nb b sl lh Q
 | .range g ps asg body its,sl,lh,Q=>match arg sl g with
   | .fn (.func f) [] ys=>match xq its f with
     | some it=>∀ l,gy w0 S l (fun xs lh K=>xs.length=ps.length/\bj w0 S lh.length asg (gL sl ps xs) lh (pc (fun sl lh'=>bj w0 S lh.length body sl lh' fun x _ lh=>K x lh) fun _ _ _=>False)) it.body
        (jP l::ys++List.replicate (it.ntmps - (ys.length+1)) .any) lh none (MX Q sl)
     | none=>False
   | _=>False
def B8:Ex->Exit
 | .normal=>.normal
 | .exit i=>.exit i
 | .ret=>.ret
def gw (B:bm):List Deferred->World->Prop
 | [],_=>True
 | d::ds,w=>∃ D,d={ target:=.collected D,args:=#[] }/\w.heap[D]? = some (.deferred (some []))/\(B.wf.heap.size<=D/\B.w0.heap.size<=D)/\(∀ d' ∈ ds,d'.target ≠ .collected D)/\gw B ds w
theorem gw.keeps {B:bm} {w w':World} (hk:∀ (D:Nat) (o:Option (List Deferred)),w.heap[D]? = some (Obj.deferred o)->w'.heap[D]? = some (Obj.deferred o)):∀ {ds:List Deferred},gw B ds w->gw B ds w'
 | [],_=>trivial
 | _::_,⟨D,h1,h2,h3,h4,h5⟩=>⟨D,h1,hk _ _ h2,h3,h4,gw.keeps hk h5⟩
theorem gw.old {B:bm} {w:World} {D:Nat}:∀ {ds:List Deferred},gw B ds w->(∀ o:Option (List Deferred),w.heap[D]? ≠ some (Obj.deferred o))->∀ d' ∈ ds,d'.target ≠ .collected D
 | [],_,_,d',hd=>by cases hd
 | d::ds,⟨D',h1,h2,_,_,h4⟩,hn,d',hd=>by
   rcases List.mem_cons.1 hd with rfl | hd
   ·rw [h1]; intro e; cases e; exact hn _ h2
   ·exact gw.old h4 hn d' hd
theorem o6 {B:bm} {w w':World} (hk:KeepsOthers w w') {ds:List Deferred} (h:gw B ds w):gw B ds w':=h.keeps fun D _ hD=>hk.same D _ hD rfl
def SR (B:bm) (m:ao) (sl:List ab) (lh:List ac) (a:Act) (w:World):Prop:=af m sl a.tmps.toList/\gw B a.defers w/\aw B m lh w
def bm.at (B:bm) (m:ao) (lh:List ac) (w:World) (ds:List Deferred):bm:=⟨B.w0,w,fun b=>∃ k cs ty,lh[k]? = some (.cells cs ty)/\m k=some b,ds⟩
theorem aw.rebase {B:bm} {m:ao} {lh:List ac} {w:World} (h:aw B m lh w) (ds:List Deferred):aw (B.at m lh w ds) m lh w :=
 ⟨rfl,rfl,rfl,h.size,h.old,Nat.le_refl _,fun _ _ _=>rfl,fun k cs ty hk=>let ⟨b,vs,h1,h2,h3,h4,_⟩:=h.loc k cs ty hk; ⟨b,vs,h1,h2,h3,h4,.inr ⟨k,cs,ty,hk,h1⟩⟩,h.inj,h.dom,h.dead,h.rng⟩
theorem aw.withDs {B:bm} {m:ao} {lh:List ac} {w:World} (h:aw B m lh w) (ds:List Deferred):aw { B with ds:=ds } m lh w :=
 ⟨h.os,h.tape,h.output,h.size,h.old,h.fsize,h.kept,h.loc,h.inj,h.dom,h.dead,h.rng⟩
theorem aw.noDs {B:bm} {m:ao} {lh:List ac} {w:World} {ds:List Deferred} (h:aw { B with ds:=ds } m lh w):aw B m lh w :=
 ⟨h.os,h.tape,h.output,h.size,h.old,h.fsize,h.kept,h.loc,h.inj,h.dom,h.dead,h.rng⟩
theorem aw.unbase {B:bm} {m m':ao} {lh lh':List ac} {w w':World} {ds:List Deferred} (h:aw B m lh w) (h':aw (B.at m lh w ds) m' lh' w'):aw B m' lh' w'/\KeepsOthers w w':=by
 have hown:∀ b,(∃ k cs ty,lh[k]? = some (.cells cs ty)/\m k=some b)->B.wf.heap.size<=b ∨ B.own b:=fun b ⟨k,cs,ty,h1,h2⟩=>by
  obtain ⟨b',vs,g1,_,_,_,g2⟩:=h.loc k cs ty h1
  rw [h2] at g1; cases g1; exact g2
 refine ⟨⟨h'.os.trans h.os,h'.tape.trans h.tape,h'.output.trans h.output,h'.size,h'.old,Nat.le_trans h.fsize h'.fsize,fun b hb ho=>?_,fun k cs ty hk=>?_,h'.inj,h'.dom,h'.dead,h'.rng⟩,⟨h'.fsize,fun k o hk ho=>?_⟩⟩
 ·rw [h'.kept b (Nat.lt_of_lt_of_le hb h.fsize) (fun hn=>by rcases hown b hn with h1 | h1; exact absurd hb (by omega); exact ho h1)]
  exact h.kept b hb ho
 ·obtain ⟨b,vs,h1,h2,h3,h4,h5⟩:=h'.loc k cs ty hk
  refine ⟨b,vs,h1,h2,h3,h4,?_⟩
  rcases h5 with h5 | h5
  ·exact .inl (Nat.le_trans h.fsize h5)
  ·exact hown b h5
 ·refine (h'.kept k (Array.getElem?_eq_some_iff.1 hk).1 (fun ⟨k',cs,ty,h1,h2⟩=>?_)).trans hk
  obtain ⟨b',vs,g1,_,g3,_⟩:=h.loc k' cs ty h1
  rw [h2] at g1; cases g1
  rw [hk] at g3; cases g3; cases ho
def QC (B:bm) (nb:Nat) (lh0:List ac) (m0:ao) (w1:World) (Q:Ex->List ab->List ac->Prop) (e:Exit) (a:Act) (w:World):Prop :=
 ∃ x sl lh m,e=B8 x/\SR B m sl lh a w/\jr nb lh0 m0 lh m/\KeepsOthers w1 w/\Q x sl lh
section
variable {P:Program} {B:bm} {S:FuncId->bf} {eqs:List TypeId} {F:Fence} {n nb:Nat}
theorem QC.of {lh0:List ac} {m0:ao} {lh:List ac} {m:ao} {w0 w1:World} {Q Q':Ex->List ab->List ac->Prop} {e:Exit} {a:Act} {w:World} (he:jr nb lh0 m0 lh m) (hk:KeepsOthers w0 w1) (hq:∀ x sl lh,Q x sl lh->Q' x sl lh)
 (h:QC B nb lh m w1 Q e a w):QC B nb lh0 m0 w0 Q' e a w:=by
 obtain ⟨x,sl,lh',m',h1,h2,h3,h4,h5⟩:=h
 exact ⟨x,sl,lh',m',h1,h2,he.trans h3,hk.trans h4,hq _ _ _ h5⟩
theorem fA {c:Code} {Q:Exit->Act->World->Prop} {a:Act} {w:World} (hQ:∀ l a w,¬ Q (.goto l) a w) (h:c.wpIn F n P Q a w):(Code.scope c).wpIn F n P Q a w:=by
 intro b k cs hro hb hr
 have h0:(lone (b.atR a (.code (.scope c)::k)) cs w).fenced P F:=fenced_calm hb hr rfl
 have hstep:∀ {a:Act} {w:World},step P (lone (b.atR a (.code (.scope c)::k)) cs w)=.next (lone (b.atR a (.code c::.inScope c::k)) cs w):=fun {a w}=>step_lone_go (by simp [stepG,stepG.exec,Frame.atR])
 have hend:∀ {a:Act} {w:World},step P (lone (b.atR a (.inScope c::k)) cs w)=.next (lone (b.atR a k) cs w):=fun {a w}=>step_lone_go (by simp [stepG,stepG.exec,Frame.atR])
 obtain ⟨e,a₁,w₁,hq,harr⟩:=h b (.inScope c::k) cs hro hb hr
 have hx:∀ id,exitTo id (.inScope c::k)=exitTo id k:=fun id=>by simp [exitTo]
 cases e with
 | normal=>exact ⟨.normal,a₁,w₁,hq,.head h0 hstep (StepsIn.trans harr (.one (fenced_calm hb hr rfl) hend))⟩
 | exit id =>
   exact ⟨.exit id,a₁,w₁,hq,fun k' hk=>.head h0 hstep (harr.1 k' (by rw [hx]; exact hk)),fun hr' hk=>let ⟨k₁,g1,g2⟩:=harr.2 hr' (by rw [hx]; exact hk); ⟨k₁,g1,.head h0 hstep g2⟩⟩
 | goto l=>exact (hQ l _ _ hq).elim
 | ret=>exact ⟨_,a₁,w₁,hq,.of_steps (.one h0 hstep) harr⟩
 | panic ch=>exact ⟨_,a₁,w₁,hq,.of_steps (.one h0 hstep) harr⟩
 | outgrown=>exact ⟨_,a₁,w₁,hq,.of_steps (.one h0 hstep) harr⟩
theorem dn {c:Code} {Q:Exit->Act->World->Prop} {a:Act} {w:World} (I:Nat->Act->World->Prop) (h₀:∃ k,I k a w)
 (round:∀ k a w,I k a w->c.wpIn F n P (Exit.then (fun a' w'=>∃ k',k' < k/\I k' a' w') Q) a w):(Code.loop c).wpIn F n P Q a w:=by
 intro b k cs hro hb hr
 have key:∀ j a w,I j a w->∃ e a' w',Q e a' w'/\ArrivesIn (Machine.fenced P F) P (lone (b.atR a (.code c::.inLoop c::k)) cs w) b k cs e a' w':=by
  intro j
  induction j using Nat.strongRecOn with
  | _ j ih =>
    intro a w hI
    obtain ⟨e,a₁,w₁,hq,harr⟩:=round j a w hI b (.inLoop c::k) cs hro hb hr
    cases e with
    | normal =>
      obtain ⟨k',hlt,hI₁⟩:=hq
      obtain ⟨e₂,a₂,w₂,hq₂,harr₂⟩:=ih k' hlt a₁ w₁ hI₁
      exact ⟨e₂,a₂,w₂,hq₂,.of_steps (StepsIn.trans harr (.one (fenced_calm hb hr rfl) stepR_inLoop)) harr₂⟩
    | exit id=>exact ⟨_,a₁,w₁,hq,.pass (x:=.inLoop c) rfl (fun _ _=>.inl (by simp)) harr⟩
    | goto l=>exact ⟨_,a₁,w₁,hq,.pass (x:=.inLoop c) rfl (fun _ _=>.inl (by simp)) harr⟩
    | ret=>exact ⟨_,a₁,w₁,hq,.pass (x:=.inLoop c) rfl (fun _ _=>.inl (by simp)) harr⟩
    | panic ch=>exact ⟨_,a₁,w₁,hq,.pass (x:=.inLoop c) rfl (fun _ _=>.inl (by simp)) harr⟩
    | outgrown=>exact ⟨_,a₁,w₁,hq,.pass (x:=.inLoop c) rfl (fun _ _=>.inl (by simp)) harr⟩
 obtain ⟨k0,h0⟩:=h₀
 obtain ⟨e,a',w',hq,harr⟩:=key k0 a w h0
 exact ⟨e,a',w',hq,.of_steps (.one (fenced_calm hb hr rfl) stepR_loop) harr⟩
def jmp:Ex->Code
 | .normal=>.skip
 | .exit i=>.exit i
 | .ret=>.ret
def gst:Ex->Option Ex
 | .normal=>none
 | x=>some x
structure KB (l:Nat) (W W':World):Prop where
 size:W.heap.size<=W'.heap.size
 same:∀ (k:Nat) (o:Obj),k ≠ l->W.heap[k]? = some o->o.isCells=false->W'.heap[k]? = some o
theorem KB.refl (l:Nat) (W:World):KB l W W:=⟨Nat.le_refl _,fun _ _ _ h _=>h⟩
theorem KB.keeps {l:Nat} {A W W':World} (h:KB l A W) (k:KeepsOthers W W'):KB l A W':=⟨Nat.le_trans h.size k.size,fun i o hi ho hc=>k.same i o (h.same i o hi ho hc) hc⟩
theorem KB.put {l:Nat} {A W:World} (h:KB l A W) (o:Obj):KB l A (W.putObj l o):=⟨by simpa using h.size,fun i o' hi ho hc=>(World.putObj_heap_other hi).trans (h.same i o' hi ho hc)⟩
def Ao (l:Nat) (rec:LoopState->Option Code->Loop) (g:Option Ex) (w:World):Prop:=w.heap[l]? = some (.loop (rec (if g.isNone then .ready else .done) (g.map jmp)))
theorem aw.putObj {m:ao} {lh:List ac} {w:World} (h:aw B m lh w) {l:Nat} {o:Obj} (hl:w.heap[l]? = some o) (ho:o.isCells=false) (hf:B.wf.heap.size<=l) (h0:B.w0.heap.size<=l) (o':Obj):aw B m lh (w.putObj l o'):=by
 refine ⟨h.os,h.tape,h.output,by simpa using h.size,fun b hb=>(World.putObj_heap_other (by omega)).trans (h.old b hb),by simpa using h.fsize,fun b hb ho=>(World.putObj_heap_other (by omega)).trans (h.kept b hb ho),fun k cs ty hk=>?_,h.inj,h.dom,h.dead,fun k b hk=>by simpa using h.rng k b hk⟩
 obtain ⟨b,vs,h1,h2,h3,h4,h5⟩:=h.loc k cs ty hk
 refine ⟨b,vs,h1,h2,(World.putObj_heap_other (fun e=>?_)).trans h3,h4,h5⟩
 subst e; rw [hl] at h3; cases h3; cases ho
theorem xg {lh lh':List ac} {m m':ao} {w:World} (h:aw B m lh w) (he:jr lh.length lh m lh' m'):Ext lh m lh' m':=by
 refine ⟨fun k b hk=>he.1 k b ?_ hk,fun k hk=>he.2 k (List.getElem?_eq_some_iff.1 hk).1 hk⟩
 rcases Nat.lt_or_ge k lh.length with hlt | hge
 ·exact hlt
 ·rw [h.dom k hge] at hk; cases hk
structure IR (B:bm) (l:Nat) (rec:LoopState->Option Code->Loop) (W1:World) (lh0:List ac) (m0:ao) (m:ao) (sl:List ab) (lh:List ac) (g:Option Ex) (a:Act) (w:World):Prop where
 vs:af m sl a.tmps.toList
 df:a.defers=[]
 hh:aw B m lh w
 ext:Ext lh0 m0 lh m
 rc:Ao l rec g w
 kb:KB l W1 w
def YS (B:bm) (F:Fence) (n:Nat) (P:Program) (l:Nat) (rec:LoopState->Option Code->Loop) (W1:World) (lh0:List ac) (m0:ao) (Y:YH):Prop :=
 ∀ (m:ao) (lh:List ac) (w:World) (args:List ab) (vs:List Value) (K:Ex->List ac->Prop),aw B m lh w->Ext lh0 m0 lh m->Ao l rec none w->KB l W1 w->af m args vs->Y args lh K ->
  ∃ fn tmps asg body,(Instr.yield l vs.toArray).run P w=.ok (.round l fn tmps asg body) w/\RoundIn F (n - 1) P l fn tmps asg body w fun e w'=>∃ x m' lh',e=.returned (.bool (gst x).isNone)/\aw B m' lh' w'/\Ext lh m lh' m'/\Ao l rec (gst x) w'/\KB l W1 w'/\K x lh'
section it
variable {l:Nat} {rec:LoopState->Option Code->Loop} {W1:World} {lh0:List ac} {m0:ao} {Y:YH}
def QI (B:bm) (l:Nat) (rec:LoopState->Option Code->Loop) (W1:World) (lh0:List ac) (m0:ao) (Q:IQ) (e:Exit) (a:Act) (w:World):Prop :=
 ∃ x sl lh m g,e=B8 x/\IR B l rec W1 lh0 m0 m sl lh g a w/\Q x sl lh g
theorem IR.step {m m':ao} {sl sl':List ab} {lh lh':List ac} {g:Option Ex} {a a':Act} {w w':World} (h:IR B l rec W1 lh0 m0 m sl lh g a w) (hs:gb (B.at m lh w []) m' sl' lh' a' w') (he:Ext lh m lh' m'):IR B l rec W1 lh0 m0 m' sl' lh' g a' w':=by
 obtain ⟨h1,h2⟩:=h.hh.unbase hs.2.2
 exact ⟨hs.1,hs.2.1,h1,h.ext.trans he,h2.same _ _ h.rc rfl,h.kb.keeps h2⟩
theorem kA {ops:Array Oper} (hF:Open F) (hS:∀ f,(S f).Ok P f) (hE:∀ t ∈ eqs,cm P t) (hY:YS B F n P l rec W1 lh0 m0 Y) {Q:Exit->Act->World->Prop}:∀ (os:List Oper) (xs:List mg) (k:Nat) (sl:List ab) (lh:List ac) (m:ao) (g:Option Ex) (a:Act) (w:World) (K:List ab->List ac->Option Ex->Prop),
 (∀ j,os[j]? = ops[k+j]?)->iK P eqs ops os=some xs->cN B.w0 S l Y xs sl lh g K->IR B l rec W1 lh0 m0 m sl lh g a w ->
 (∀ sl' lh' m' g' a' w',IR B l rec W1 lh0 m0 m' sl' lh' g' a' w'->K sl' lh' g'->Q .normal a' w')->wpOpsIn F n P ops Q (List.range' k os.length) a w
 | [],xs,k,sl,lh,m,g,a,w,K,_,hc,hv,hs,hQ=>by
   simp only [iK,Option.some.injEq] at hc; subst hc
   exact hQ _ _ _ _ _ _ hs hv
 | o :: os, xs,k,sl,lh,m,g,a,w,K,hl,hc,hv,hs,hQ=>by
   have h0:ops[k]? = some o:=by simpa using (hl 0).symm
   have hl':∀ j,os[j]? = ops[k+1+j]? := fun j=>by have:=hl (j+1); simpa [Nat.add_assoc,Nat.add_comm 1 j] using this
   simp only [iK] at hc
   split at hc
   ·cases hc
   ·rename_i xs' hxs
    have ih:=fun sl1 lh1 m1 g1 a1 w1 hv hs=>kA hF hS hE hY os xs' (k+1) sl1 lh1 m1 g1 a1 w1 K hl' hxs hv hs hQ
    split at hc
    ·rename_i t az hy
     cases hc
     simp only [cN] at hv
     obtain ⟨rfl,hy0,hv⟩:=hv
     unfold sW at hy
     split at hy
     ·rename_i c hg ho
      split at hy
      ·rename_i t hcal
       cases hy
       simp only [List.length_cons,List.range'_succ,wpOpsIn,h0]
       rw [if_pos (by simp [Region.wanted,hg])]
       refine ⟨fun f _=>hF.fn f,?_⟩
       have hsem:o.semAt F.round a.eval=execOp a.eval o:=by
        unfold Oper.semAt; split
        ·rename_i ho'; rw [ho] at ho'; cases ho'
        ·rfl
       have hev:a.eval (.tmp t)=.func (.yield l) #[] #[]:=by
        have:=iW hs.vs t undef
        rw [hy0] at this
        simp only [jP,vrel] at this
        simpa [Act.eval] using this
       obtain ⟨fn,tmps,asg,body,hrun,hround⟩:=hY m lh w _ _ _ hs.hh hs.ext hs.rc hs.kb (d8 hs.vs c.args.toList) hv
       have hexec:(execOp a.eval o).run P w=.ok (.round l fn tmps asg body) w:=by
        simp only [execOp,ho]
        rw [aa (a:={ target:=.fn (.yield l) #[],args:=#[]++c.args.map a.eval }) (w':=w) (by simp only [resolve,hcal,hev]; rfl)]
        simp only [invoke]
        have:#[]++c.args.map a.eval++#[]=(c.args.toList.map a.eval).toArray:=by
         apply Array.toList_inj.1; simp
        first
         | (rw [this]; exact hrun)
         | (have e2:#[]++c.args.map a.eval=(c.args.toList.map a.eval).toArray:=by
             apply Array.toList_inj.1; simp
            rw [e2]; exact hrun)
       rw [hsem,hexec,Oper.uponIn_round]
       refine ⟨fun e=>(by rw [hF.depth] at e; cases e),hround.mono fun e w' ⟨x,m',lh',he,g1,g2,g3,g4,g5⟩=>?_⟩
       subst he
       have hp:∀ b,IR B l rec W1 lh0 m0 m' (cA sl o.dst (.bool b)) lh' (gst x) (a.put o.dst (.bool b)) w':=fun b=>by
        refine ⟨?_,by cases o.dst <;> exact hs.df,g1,hs.ext.trans g2,g3,g4⟩
        rw [lK]
        cases o.dst with
        | none=>exact bl g2.1 _ _ hs.vs
        | some d=>exact ej d (bl g2.1 _ _ hs.vs) (by simp only [vrel])
       cases x with
       | normal=>exact ih _ _ _ _ _ _ g5 (hp true)
       | exit i=>exact ih _ _ _ _ _ _ g5 (hp false)
       | ret=>exact ih _ _ _ _ _ _ g5 (hp false)
      ·cases hy
     ·cases hy
    ·split at hc
     ·rename_i x hx
      cases hc
      simp only [cN] at hv
      have hj0:∀ j,j < [o].length->[o][j]? = ops[k+j]? := fun j hj=>by
       obtain rfl:j=0:=by simpa using hj
       simpa using hl 0
      have:=gJ (n:=n) (ops:=ops) (B:=B.at m lh w []) (Q:=Q) hF (fun f=>(hS f).sound) hE (List.range' (k+1) os.length) [o] [x] k sl lh m a w _ hj0 (by simp [bg,hx]) hv ⟨hs.vs,hs.df,hs.hh.rebase []⟩ (fun sl' lh' m' a' w' h1 h2 h3=>ih _ _ _ _ _ _ h3 (hs.step h1 h2))
      simpa [List.range'_succ] using this
     ·cases hc
theorem yX (hF:Open F) (hS:∀ f,(S f).Ok P f) (hE:∀ t ∈ eqs,cm P t) (hY:YS B F n P l rec W1 lh0 m0 Y):∀ (c:Code) (s:eI) (sl:List ab) (lh:List ac) (m:ao) (g:Option Ex) (a:Act) (w:World) (Q:IQ),
 fy P eqs c=some s->IR B l rec W1 lh0 m0 m sl lh g a w->gy B.w0 S l Y s sl lh g Q->c.wpIn F n P (QI B l rec W1 lh0 m0 Q) a w:=by
 intro c
 induction c with
 | skip=>intro s sl lh m g a w Q hc hs hv; cases hc; exact wpIn_skip ⟨.normal,sl,lh,m,g,rfl,hs,hv⟩
 | label t=>intro s sl lh m g a w Q hc hs hv; cases hc; exact wpIn_label ⟨.normal,sl,lh,m,g,rfl,hs,hv⟩
 | region id ops dr =>
   intro s sl lh m g a w Q hc hs hv
   cases dr with
   | false =>
     simp only [fy,Option.map_eq_some_iff] at hc
     obtain ⟨xs,hxs,rfl⟩:=hc
     refine wpIn_region ?_
     have:=kA (n:=n) (ops:=ops) (Q:=QI B l rec W1 lh0 m0 Q) hF hS hE hY ops.toList xs 0 sl lh m g a w (Q .normal) (by simp) hxs hv hs (fun sl' lh' m' g' a' w' h1 h3=>⟨.normal,sl',lh',m',g',rfl,h1,h3⟩)
     rwa [List.range_eq_range',← Array.length_toList]
   | true =>
     simp only [fy,Option.map_eq_some_iff] at hc
     obtain ⟨ds,hds,rfl⟩:=hc
     exact mv (B:=B.at m lh w []) hF hS hE hds ⟨hs.vs,hs.df,hs.hh.rebase []⟩ hv (fun sl' lh' m' a' w' h1 h2 h3=>⟨.normal,sl',lh',m',g,rfl,hs.step h1 h2,h3⟩)
 | seq x y ihx ihy =>
   intro s sl lh m g a w Q hc hs hv
   simp only [fy] at hc
   split at hc
   ·rename_i sx sy hx hy
    cases hc
    refine wpIn_seq (wpIn_mono (ihx sx sl lh m g a w _ hx hs hv) fun e a' w' hq=>?_)
    obtain ⟨ex,sl',lh',m',g',rfl,h1,h3⟩:=hq
    cases ex with
    | normal=>exact ihy sy sl' lh' m' g' a' w' Q hy h1 h3
    | exit i=>exact ⟨.exit i,sl',lh',m',g',rfl,h1,h3⟩
    | ret=>exact ⟨.ret,sl',lh',m',g',rfl,h1,h3⟩
   ·cases hc
 | cond c x y ihx ihy =>
   intro s sl lh m g a w Q hc hs hv
   simp only [fy] at hc
   split at hc
   ·rename_i sx sy hx hy
    cases hc
    simp only [gy] at hv
    have ha:=au hs.vs c
    split at hv
    ·rename_i t ht
     rw [ht] at ha
     exact wpIn_cond_split (eL ha) (fun e=>ihx sx sl lh m g a w Q hx hs (hv.1 e)) (fun e=>ihy sy sl lh m g a w Q hy hs (hv.2 e))
    ·exact hv.elim
   ·cases hc
 | block id x ih =>
   intro s sl lh m g a w Q hc hs hv
   simp only [fy,Option.map_eq_some_iff] at hc
   obtain ⟨sx,hx,rfl⟩:=hc
   refine wpIn_block (wpIn_mono (ih sx sl lh m g a w _ hx hs hv) fun e a' w' hq=>?_)
   obtain ⟨ex,sl',lh',m',g',rfl,h1,h3⟩:=hq
   cases ex with
   | normal=>exact ⟨.normal,sl',lh',m',g',rfl,h1,h3⟩
   | exit i =>
     simp only [B8,Exit.inBlock]
     simp only [qL] at h3
     split at h3
     ·rename_i e; rw [if_pos e]; exact ⟨.normal,sl',lh',m',g',rfl,h1,h3⟩
     ·rename_i e; rw [if_neg e]; exact ⟨.exit i,sl',lh',m',g',rfl,h1,h3⟩
   | ret=>exact ⟨.ret,sl',lh',m',g',rfl,h1,h3⟩
 | loop x ih =>
   intro s sl lh m g a w Q hc hs hv
   simp only [fy,Option.map_eq_some_iff] at hc
   obtain ⟨sx,hx,rfl⟩:=hc
   simp only [gy] at hv
   obtain ⟨ι,shs,shl,shg,μ,i0,rfl,rfl,rfl,hr⟩:=hv
   refine dn (fun k a w=>∃ i m',IR B l rec W1 lh0 m0 m' (shs i) (shl i) (shg i) a w/\μ i=k) ⟨_,i0,m,hs,rfl⟩ fun k a w hI=>?_
   obtain ⟨i,m',hi,rfl⟩:=hI
   refine wpIn_mono (ih sx (shs i) (shl i) m' (shg i) a w _ hx hi (hr i)) fun e a' w' hq=>?_
   obtain ⟨ex,sl',lh',m2,g',rfl,h1,h3⟩:=hq
   cases ex with
   | normal =>
     obtain ⟨i',rfl,rfl,rfl,hlt⟩:=h3
     exact ⟨_,hlt,i',m2,h1,rfl⟩
   | exit j=>exact ⟨.exit j,sl',lh',m2,g',rfl,h1,h3⟩
   | ret=>exact ⟨.ret,sl',lh',m2,g',rfl,h1,h3⟩
 | exit id=>intro s sl lh m g a w Q hc hs hv; cases hc; exact wpIn_exit ⟨.exit id,sl,lh,m,g,rfl,hs,hv⟩
 | ret=>intro s sl lh m g a w Q hc hs hv; cases hc; exact wpIn_ret ⟨.ret,sl,lh,m,g,rfl,hs,hv⟩
 | scope x ih =>
   intro s sl lh m g a w Q hc hs hv
   simp only [fy,Option.map_eq_some_iff] at hc
   obtain ⟨sx,hx,rfl⟩:=hc
   exact fA (fun t a w ⟨ex,_,_,_,_,h,_⟩=>by cases ex <;> cases h) (ih sx sl lh m g a w Q hx hs hv)
 | _=>intro s sl lh m g a w Q hc; cases hc
end it
def resV (tmps:Array Value):ResultVar->Sem Value
 | .tmp t=>pure (tmps.getD t undef)
 | .cell b t=>do loadVar t (← asAddr (tmps.getD b undef))
def nU:List Value->Value
 | [v]=>v
 | vs=>.tuple vs.toArray
theorem jI {fn:Func} {tmps:Array Value} {w:World} {vs:List Value} (h:(fn.results.toList.mapM (resV tmps)).run P w=.ok vs w):(results fn tmps).run P w=.ok (nU vs) w:=by
 have e0:results fn tmps=(do let vs ← fn.results.mapM (resV tmps); pure (if h:vs.size=1 then vs[0] else .tuple vs)):=by
  unfold results
  congr 2
 have h2:(fn.results.mapM (resV tmps)).run P w=.ok vs.toArray w:=by
  rw [Array.mapM_eq_mapM_toList]
  show (do pure (← fn.results.toList.mapM (resV tmps)).toArray:Sem (Array Value)).run P w=_
  rw [aa h]; rfl
 rw [e0,aa h2]
 match vs with
 | []=>rfl
 | [v]=>rfl
 | v::u::l=>simp [nU]
def jK (P : Program) (eqs : List TypeId) (its : List fm) : Prop := ∀ it ∈ its, ∃ fn, P.funcs[it.f]? = some fn /\ (fn.name == "runtime.NumGoroutine") = false /\ xv P eqs fn = some (it.ntmps, it.body)
theorem kk:∀ {its:List fm} {f:FuncId} {it:fm},xq its f=some it->it ∈ its/\it.f=f
 | [],_,_,h=>by cases h
 | x::l,f,it,h=>by
   simp only [xq] at h
   split at h
   ·rename_i e; cases h; exact ⟨List.mem_cons_self,e.symm⟩
   ·exact ⟨List.mem_cons_of_mem _ (kk h).1,(kk h).2⟩
theorem sU {m:ao}:∀ (ps:List Nat) (sl xs:List ab) (us:Array Value) (vs:List Value),af m sl us.toList->af m xs vs->xs.length=ps.length ->
 af m (gL sl ps xs) ((ps.zip vs).foldl (fun t (p,v)=>t.setIfInBounds p v) us).toList
 | [],sl,xs,us,vs,h,_,_=>by cases xs <;> simpa [gL] using h
 | p::ps,sl,[],us,vs,_,_,hl=>by cases hl
 | p::ps,sl,x::xs,us,vs,h,hx,hl=>by
   simp only [af] at hx
   obtain ⟨u,us',rfl,h1,h2⟩:=hx
   simp only [gL,List.zip_cons_cons,List.foldl_cons]
   exact sU ps _ xs _ us' (by rw [Array.toList_setIfInBounds]; exact ej p h h1) h2 (by simpa using hl)
theorem SR.step {m m':ao} {sl sl':List ab} {lh lh':List ac} {a a':Act} {w w':World} (h:SR B m sl lh a w) (hs:gb (B.at m lh w a.defers) m' sl' lh' a' w'):SR B m' sl' lh' a' w'/\KeepsOthers w w':=by
 obtain ⟨h1,h2⟩:=h.2.2.unbase hs.2.2
 exact ⟨⟨hs.1,by rw [hs.2.1]; exact o6 h2 h.2.1,h1⟩,h2⟩
theorem vo {its:List fm} (hS:∀ f,(S f).Ok P f) (hE:∀ t ∈ eqs,cm P t) (hI:jK P eqs its):∀ (c:Code) (F:Fence) (n nb:Nat) (B:bm) (s:dt) (sl:List ab) (lh:List ac) (m:ao) (a:Act) (w:World) (Q:Ex->List ab->List ac->Prop),
 Open F->(F.round=none ∨ cn s=true)->bI P eqs its c=some s->SR B m sl lh a w->bj B.w0 S nb s sl lh Q->c.wpIn F n P (QC B nb lh m w Q) a w:=by
 have hSS:∀ f,(S f).Sound P f:=fun f=>(hS f).sound
 intro c
 induction c with
 | skip=>intro F n nb B s sl lh m a w Q hF hr hc hs hv; cases hc; exact wpIn_skip ⟨.normal,sl,lh,m,rfl,hs,jr.refl _ _ _,.refl _,hv⟩
 | label l=>intro F n nb B s sl lh m a w Q hF hr hc hs hv; cases hc; exact wpIn_label ⟨.normal,sl,lh,m,rfl,hs,jr.refl _ _ _,.refl _,hv⟩
 | region id ops dr =>
   intro F n nb B s sl lh m a w Q hF hr hc hs hv
   cases dr with
   | false =>
     simp only [bI,Option.map_eq_some_iff] at hc
     obtain ⟨xs,hxs,rfl⟩:=hc
     refine wpIn_region ?_
     have:=gJ (n:=n) (ops:=ops) (B:=B.at m lh w a.defers) (Q:=QC B nb lh m w Q) hF hSS hE [] ops.toList xs 0 sl lh m a w (Q .normal) (by simp) hxs hv ⟨hs.1,rfl,hs.2.2.rebase _⟩ (fun sl' lh' m' a' w' h1 h2 h3=>⟨.normal,sl',lh',m',rfl,(hs.step h1).1,h2.toN nb,(hs.step h1).2,h3⟩)
     rw [List.append_nil] at this
     rwa [List.range_eq_range',← Array.length_toList]
   | true =>
     simp only [bI] at hc
     split at hc
     ·rename_i t ht
      cases hc
      exact xO (B:=B.at m lh w a.defers) hF hS hE ht ⟨hs.1,rfl,hs.2.2.rebase _⟩ hv (fun sl' lh' m' a' w' h1 h2 h3=>⟨.normal,sl',lh',m',rfl,(hs.step h1).1,h2.toN nb,(hs.step h1).2,h3⟩)
     ·simp only [Option.map_eq_some_iff] at hc
      obtain ⟨ds,hds,rfl⟩:=hc
      exact mv (B:=B.at m lh w a.defers) hF hS hE hds ⟨hs.1,rfl,hs.2.2.rebase _⟩ hv (fun sl' lh' m' a' w' h1 h2 h3=>⟨.normal,sl',lh',m',rfl,(hs.step h1).1,h2.toN nb,(hs.step h1).2,h3⟩)
 | seq x y ihx ihy =>
   intro F n nb B s sl lh m a w Q hF hr hc hs hv
   simp only [bI] at hc
   split at hc
   ·rename_i sx sy hx hy
    cases hc
    have hr1:F.round=none ∨ cn sx=true:=hr.imp_right fun h=>by simp only [cn,Bool.and_eq_true] at h; exact h.1
    have hr2:F.round=none ∨ cn sy=true:=hr.imp_right fun h=>by simp only [cn,Bool.and_eq_true] at h; exact h.2
    refine wpIn_seq (wpIn_mono (ihx F n nb B sx sl lh m a w _ hF hr1 hx hs hv) fun e a' w' hq=>?_)
    obtain ⟨ex,sl',lh',m',rfl,h1,h2,hk,h3⟩:=hq
    cases ex with
    | normal=>exact wpIn_mono (ihy F n nb B sy sl' lh' m' a' w' Q hF hr2 hy h1 h3) fun e a'' w''=>QC.of h2 hk fun _ _ _ h=>h
    | exit i=>exact ⟨.exit i,sl',lh',m',rfl,h1,h2,hk,h3⟩
    | ret=>exact ⟨.ret,sl',lh',m',rfl,h1,h2,hk,h3⟩
   ·cases hc
 | cond c x y ihx ihy =>
   intro F n nb B s sl lh m a w Q hF hr hc hs hv
   simp only [bI] at hc
   split at hc
   ·rename_i sx sy hx hy
    cases hc
    have hr1:F.round=none ∨ cn sx=true:=hr.imp_right fun h=>by simp only [cn,Bool.and_eq_true] at h; exact h.1
    have hr2:F.round=none ∨ cn sy=true:=hr.imp_right fun h=>by simp only [cn,Bool.and_eq_true] at h; exact h.2
    simp only [bj] at hv
    have ha:=au hs.1 c
    split at hv
    ·rename_i t ht
     rw [ht] at ha
     exact wpIn_cond_split (eL ha) (fun e=>ihx F n nb B sx sl lh m a w Q hF hr1 hx hs (hv.1 e)) (fun e=>ihy F n nb B sy sl lh m a w Q hF hr2 hy hs (hv.2 e))
    ·exact hv.elim
   ·cases hc
 | block id x ih =>
   intro F n nb B s sl lh m a w Q hF hr hc hs hv
   simp only [bI,Option.map_eq_some_iff] at hc
   obtain ⟨sx,hx,rfl⟩:=hc
   refine wpIn_block (wpIn_mono (ih F n nb B sx sl lh m a w _ hF hr hx hs hv) fun e a' w' hq=>?_)
   obtain ⟨ex,sl',lh',m',rfl,h1,h2,hk,h3⟩:=hq
   cases ex with
   | normal=>exact ⟨.normal,sl',lh',m',rfl,h1,h2,hk,h3⟩
   | exit i =>
     simp only [B8,Exit.inBlock]
     simp only [rb] at h3
     split at h3
     ·rename_i e; rw [if_pos e]; exact ⟨.normal,sl',lh',m',rfl,h1,h2,hk,h3⟩
     ·rename_i e; rw [if_neg e]; exact ⟨.exit i,sl',lh',m',rfl,h1,h2,hk,h3⟩
   | ret=>exact ⟨.ret,sl',lh',m',rfl,h1,h2,hk,h3⟩
 | loop x ih =>
   intro F n nb B s sl lh m a w Q hF hr hc hs hv
   simp only [bI,Option.map_eq_some_iff] at hc
   obtain ⟨sx,hx,rfl⟩:=hc
   simp only [bj] at hv
   obtain ⟨ι,shs,shl,μ,i0,h0,hrd⟩:=hv
   have sub:∀ {m:ao} {sl sl1:List ab} {lh lh1:List ac} {a:Act} {w:World},Sub nb sl lh sl1 lh1->SR B m sl lh a w->∃ m1,SR B m1 sl1 lh1 a w/\jr nb lh m lh1 m1:=fun {m sl sl1 lh lh1 a w} h1 h2=>by
    obtain ⟨m1,g1,g2⟩:=h1.rel (B:={ B with ds:=a.defers }) (a:=a) (w:=w) (m:=m) ⟨h2.1,rfl,h2.2.2.withDs _⟩
    exact ⟨m1,⟨g1.1,h2.2.1,g1.2.2.noDs⟩,g2⟩
   obtain ⟨m1,hs1,he1⟩:=sub h0 hs
   refine dn (fun k a w'=>∃ i m',SR B m' (shs i) (shl i) a w'/\jr nb lh m (shl i) m'/\KeepsOthers w w'/\μ i=k) ⟨_,i0,m1,hs1,he1,.refl _,rfl⟩ fun k a w1 hI=>?_
   obtain ⟨i,m',hi,he,hk,rfl⟩:=hI
   refine wpIn_mono (ih F n nb B sx (shs i) (shl i) m' a w1 _ hF hr hx hi (hrd i)) fun e a' w' hq=>?_
   obtain ⟨ex,sl',lh',m2,rfl,h1,h2,hk2,h3⟩:=hq
   cases ex with
   | normal =>
     obtain ⟨i',hsub,hlt⟩:=h3
     obtain ⟨m3,hs3,he3⟩:=sub hsub h1
     exact ⟨_,hlt,i',m3,hs3,(he.trans h2).trans he3,hk.trans hk2,rfl⟩
   | exit j=>exact ⟨.exit j,sl',lh',m2,rfl,h1,he.trans h2,hk.trans hk2,h3⟩
   | ret=>exact ⟨.ret,sl',lh',m2,rfl,h1,he.trans h2,hk.trans hk2,h3⟩
 | exit id=>intro F n nb B s sl lh m a w Q hF hr hc hs hv; cases hc; exact wpIn_exit ⟨.exit id,sl,lh,m,rfl,hs,jr.refl _ _ _,.refl _,hv⟩
 | ret=>intro F n nb B s sl lh m a w Q hF hr hc hs hv; cases hc; exact wpIn_ret ⟨.ret,sl,lh,m,rfl,hs,jr.refl _ _ _,.refl _,hv⟩
 | scope x ih =>
   intro F n nb B s sl lh m a w Q hF hr hc hs hv
   simp only [bI,Option.map_eq_some_iff] at hc
   obtain ⟨sx,hx,rfl⟩:=hc
   exact fA (fun l a w ⟨ex,_,_,_,h,_⟩=>by cases ex <;> cases h) (ih F n nb B sx sl lh m a w Q hF hr hx hs hv)
 | rangeFunc gop ps asg body iha ihb =>
   intro F n nb B s sl lh m a w Q hF hr hc hs hv
   simp only [bI] at hc
   split at hc
   ·rename_i sa sb hca hcb
    split at hc
    ·rename_i hnr
     cases hc
     simp only [Bool.and_eq_true] at hnr
     have hro:F.round=none:=hr.resolve_right (by simp [cn])
     simp only [bj] at hv
     have hg:=au hs.1 gop
     split at hv
     ·rename_i f ys hfn
      rw [hfn] at hg
      simp only [vrel,af] at hg
      obtain ⟨us,lb,hg,hus,hys⟩:=hg
      obtain rfl:us=#[]:=by apply Array.toList_inj.1; simpa using hus
      split at hv
      ·rename_i it hit
       obtain ⟨hmem,rfl⟩:=kk hit
       obtain ⟨fn,hf,hnm,hci⟩:=hI it hmem
       unfold xv at hci
       split at hci
       ·rename_i _ _ cb hbody hres
        simp only [Option.map_eq_some_iff,Prod.mk.injEq] at hci
        obtain ⟨si,hsi,hnt,hsb⟩:=hci
        subst hsb
        refine wpIn_rangeFunc ?_
        intro fn0 hfn0
        rw [hro]
        obtain ⟨rec,hrec⟩:∃ rec:LoopState->Option Code->Loop,rec=fun st pe=>{ state:=st,pending:=pe,fn:=fn0,tmps:=a.tmps,params:=ps,assign:=asg,body:=body,defers:=w.heap.size }:=⟨_,rfl⟩
        obtain ⟨W1,hW1⟩:∃ W1,(w.alloc (.deferred (some []))).alloc (.loop (rec .ready none))=W1:=⟨_,rfl⟩
        have hL1:W1.heap[w.heap.size+1]? = some (.loop (rec .ready none)):=by
         rw [← hW1]; have:=World.alloc_heap_new (w.alloc (.deferred (some []))) (.loop (rec .ready none)); rwa [World.size_alloc] at this
        have hK1:W1.heap[w.heap.size]? = some (.deferred (some [])):=by
         rw [← hW1]; exact (KeepsOthers.alloc _ _).same _ _ (World.alloc_heap_new w _) rfl
        have hkeep1:KeepsOthers w W1:=by rw [← hW1]; exact (KeepsOthers.alloc _ _).trans (KeepsOthers.alloc _ _)
        have hH1:aw B m lh W1:=by rw [← hW1]; exact (hs.2.2.junk _).junk _
        have hle0:B.w0.heap.size<=w.heap.size+1:=Nat.le_trans hs.2.2.size (by omega)
        have hlef:B.wf.heap.size<=w.heap.size+1:=Nat.le_trans hs.2.2.fsize (by omega)
        refine ⟨w.heap.size+1,[{ target:=.collected w.heap.size,args:=#[] }],W1,{ target:=.fn (.func it.f) lb,args:=#[.func (.yield (w.heap.size+1)) #[] #[]] },W1,it.f,
         #[.func (.yield (w.heap.size+1)) #[] #[]]++lb,W1,?_,?_,fun f' _=>hF.fn f',?_,(fun e=>by rw [hF.depth] at e; cases e),?_⟩
        ·rw [← hW1,hrec]; exact run_enterLoop_outer _ _ _ _ _
        ·simp only [resolve,hg]
         simp [go_sem]
        ·simp only [invoke,callFunc]
         rw [aa (a:=P) (w':=W1) rfl,hf]
         simp only [hnm,hbody,Option.isNone_some,Bool.false_eq_true,if_false]
         rfl
        ·-- THE ITERATOR
         have hY:YS B F (n - 1) P (w.heap.size+1) rec W1 lh m (fun xs lh K=>xs.length=ps.toList.length/\bj B.w0 S lh.length sa (gL sl ps.toList xs) lh (pc (fun sl lh'=>bj B.w0 S lh.length sb sl lh' fun x _ lh=>K x lh) fun _ _ _=>False)):=by
          intro m' lh' w' args vs K hh he hrc hkb hvs hy
          obtain ⟨hlen,hy⟩:=hy
          refine ⟨fn0,_,asg,body,by have:=run_yield (P:=P) (args:=vs.toArray) hrc (by rw [hrec]; have:=bo hvs; simp; simp at hlen; omega); rw [hrec] at this; exact this,?_⟩
          refine roundIn_of_wpIn hfn0 ?_
          have hsr:SR B m' (gL sl ps.toList args) lh' { tmps:=(ps.zip vs.toArray).foldl (fun t (p,v)=>t.setIfInBounds p v) a.tmps,defers:=[] } w':=by
           refine ⟨?_,trivial,hh⟩
           have:=sU ps.toList sl args a.tmps vs (bl he.1 _ _ hs.1) hvs hlen
           rw [← Array.foldl_toList,Array.toList_zip]; simpa using this
          have hFr:Open (F.inRound (w.heap.size+1)):=⟨hF.fn,hF.depth,hF.alive⟩
          refine wpIn_mono (iha (F.inRound (w.heap.size+1)) (n - 1 - 1) lh'.length B sa _ lh' m' _ w' _ hFr (.inr hnr.1) hca hsr hy) fun e a1 w1 hq=>?_
          obtain ⟨ex,sl1,lh1,m1,rfl,h1,h2,hk1,h3⟩:=hq
          cases ex with
          | normal =>
            have hr1:w1.heap[w.heap.size+1]? = some (.loop (rec .ready none)):=hk1.same _ _ hrc rfl
            refine ⟨_,run_beginRound hr1 (by rw [hrec]),?_⟩
            have hh1:=h1.2.2.putObj hr1 rfl hlef hle0 (.loop { rec .ready none with state:=.busy })
            have hkb1:=(hkb.keeps hk1).put (.loop { rec .ready none with state:=.busy })
            have hm1:gw B a1.defers (w1.putObj (w.heap.size+1) (.loop { rec .ready none with state:=.busy })):=h1.2.1.keeps fun D o hD=>(World.putObj_heap_other (fun e=>by subst e; rw [hr1] at hD; cases hD)).trans hD
            have hlt1:w.heap.size+1 < w1.heap.size:=(Array.getElem?_eq_some_iff.1 hr1).1
            have hr2:(w1.putObj (w.heap.size+1) (.loop { rec .ready none with state:=.busy })).heap[w.heap.size+1]? = some (.loop { rec .ready none with state:=.busy }):=World.putObj_heap_same hlt1
            refine wpIn_mono (ihb (F.inRound (w.heap.size+1)) (n - 1 - 1) lh'.length B sb sl1 lh1 m1 a1 _ _ hFr (.inr hnr.2) hcb ⟨h1.1,hm1,hh1⟩ h3) fun e a2 w2 hq=>?_
            obtain ⟨ex,sl2,lh2,m2,rfl,k1,k2,hk2,k3⟩:=hq
            have hr3:=hk2.same _ _ hr2 rfl
            have hend:∀ jump:Option Code,(Instr.endRound (w.heap.size+1) jump).run P w2=.ok (.bool jump.isNone) (w2.putObj (w.heap.size+1) (.loop (rec (if jump.isNone then .ready else .done) jump))):=fun jump=>by
             have:=run_endRound (P:=P) jump hr3
             rw [hrec] at this ⊢; exact this
            have hlt3:w.heap.size+1 < w2.heap.size:=(Array.getElem?_eq_some_iff.1 hr3).1
            have fin:∀ x,∃ x' m'' lh'',Ending.returned (.bool (gst x).isNone)=.returned (.bool (gst x').isNone)/\aw B m'' lh'' (w2.putObj (w.heap.size+1) (.loop (rec (if (gst x).isNone then .ready else .done) ((gst x).map jmp))))/\Ext lh' m' lh'' m''/\Ao (w.heap.size+1) rec (gst x') (w2.putObj (w.heap.size+1) (.loop (rec (if (gst x).isNone then .ready else .done) ((gst x).map jmp))))/\KB (w.heap.size+1) W1 (w2.putObj (w.heap.size+1) (.loop (rec (if (gst x).isNone then .ready else .done) ((gst x).map jmp))))/\(K x lh2->K x' lh''):=fun x =>
             ⟨x,m2,lh2,rfl,k1.2.2.putObj hr3 rfl hlef hle0 _,xg hh (h2.trans k2),World.putObj_heap_same hlt3,(hkb1.keeps hk2).put _,id⟩
            cases ex with
            | normal=>obtain ⟨x',m'',lh'',e1,e2,e3,e4,e5,e6⟩:=fin .normal; exact ⟨_,_,hend none,x',m'',lh'',e1,e2,e3,e4,e5,e6 k3⟩
            | exit i=>obtain ⟨x',m'',lh'',e1,e2,e3,e4,e5,e6⟩:=fin (.exit i); exact ⟨_,_,hend (some (.exit i)),x',m'',lh'',e1,e2,e3,e4,e5,e6 k3⟩
            | ret=>obtain ⟨x',m'',lh'',e1,e2,e3,e4,e5,e6⟩:=fin .ret; exact ⟨_,_,hend (some .ret),x',m'',lh'',e1,e2,e3,e4,e5,e6 k3⟩
          | exit i=>exact h3.elim
          | ret=>exact h3.elim
         have hir:IR B (w.heap.size+1) rec W1 lh m m (jP (w.heap.size+1)::ys++List.replicate (it.ntmps - (ys.length+1)) .any) lh none { tmps:=(#[Value.func (.yield (w.heap.size+1)) #[] #[]]++lb)++Array.replicate (fn.ntmps - (#[Value.func (.yield (w.heap.size+1)) #[] #[]]++lb).size) undef,defers:=[] } W1:=by
          refine ⟨?_,rfl,hH1,Ext.refl _ _,hL1,KB.refl _ _⟩
          have hl:=bo hys
          simp only [Array.toList_append,Array.toList_replicate,Array.size_append]
          refine bC ?_ ?_
          ·simp only [af]
           exact ⟨_,_,rfl,by simp only [jP,vrel],hys⟩
          ·have e:fn.ntmps - (#[Value.func (.yield (w.heap.size+1)) #[] #[]].size+lb.size)=it.ntmps - (ys.length+1):=by
            have:lb.size=ys.length:=by simpa using hl
            rw [hnt,this]; simp; omega
           rw [e]; exact cO _ _
         refine callsIn_of_wp hf hbody (hF.fn _) (wpIn_mono (yX hF hS hE hY cb it.body _ lh m none _ W1 _ hsi hir (hv _)) fun e a' w' hq=>?_) hro
         obtain ⟨ex,sl',lh',m',g,rfl,hi,hq⟩:=hq
         have hres':(results fn a'.tmps).run P w'=.ok (nU []) w':=by
          refine jI ?_
          rw [hres]; rfl
         have hlt:w.heap.size+1 < w'.heap.size:=(Array.getElem?_eq_some_iff.1 hi.rc).1
         have hfin:∀ x,Q x sl lh'->∃ o,QC B nb lh m w Q (B8 x) { a with defers:=[{ target:=.collected w.heap.size,args:=#[] }]++a.defers } (w'.putObj (w.heap.size+1) o)/\o=.loop { rec (if g.isNone then .ready else .done) (g.map jmp) with state:=.exhausted }:=fun x hx=>by
          have hk:KeepsOthers w (w'.putObj (w.heap.size+1) (.loop { rec (if g.isNone then .ready else .done) (g.map jmp) with state:=.exhausted })):=by
           have hkb:=hi.kb.put (.loop { rec (if g.isNone then .ready else .done) (g.map jmp) with state:=.exhausted })
           exact ⟨Nat.le_trans hkeep1.size hkb.size,fun k o hk ho=>hkb.same k o (fun e=>by have:=(Array.getElem?_eq_some_iff.1 hk).1; omega) (hkeep1.same k o hk ho) ho⟩
          refine ⟨_,⟨x,sl,lh',m',rfl,⟨bl hi.ext.1 _ _ hs.1,?_,hi.hh.putObj hi.rc rfl hlef hle0 _⟩,hi.ext.toN nb,hk,hx⟩,rfl⟩
          refine ⟨_,rfl,(World.putObj_heap_other (by omega)).trans (hi.kb.same _ _ (by omega) hK1 rfl),⟨hs.2.2.fsize,hs.2.2.size⟩,hs.2.1.old (fun o ho=>?_),o6 hk hs.2.1⟩
          have:=(Array.getElem?_eq_some_iff.1 ho).1; omega
         have hendl:=run_endLoop (P:=P) hi.rc (by rw [hrec]; cases g <;> simp)
         have main:MX Q sl .normal sl' lh' g->rangePost F n P (w.heap.size+1) (QC B nb lh m w Q) { a with defers:=[{ target:=.collected w.heap.size,args:=#[] }]++a.defers } (.returned (nU [])) w':=fun hq=>by
          refine ⟨_,_,hendl,?_⟩
          cases g with
          | none =>
            obtain ⟨o,h1,rfl⟩:=hfin .normal hq
            rw [hrec] at h1 ⊢; exact h1
          | some x =>
            obtain ⟨o,h1,rfl⟩:=hfin x hq
            rw [hrec] at h1 ⊢
            cases x with
            | normal=>exact wpIn_skip h1
            | exit i=>exact wpIn_exit h1
            | ret=>exact wpIn_ret h1
         cases ex with
         | normal=>exact ⟨hi.df,_,hres',main hq⟩
         | ret=>exact ⟨hi.df,_,hres',main (by cases g <;> exact hq)⟩
         | exit i=>exact hq.elim
       ·cases hci
      ·exact hv.elim
     ·exact hv.elim
    ·cases hc
   ·cases hc
 | _=>intro F n nb B s sl lh m a w Q hF hr hc; cases hc
end
end Go.Sx
namespace Go.Sx
inductive tV where
 | tmp (t:Nat)
 | cell (t:Nat) (n:Option Nat)
structure aE where
 ntmps:Nat
 res:List tV
 body:dt
def iV (P:Program):List ResultVar->Option (List tV)
 | []=>some []
 | .tmp t::l=>(iV P l).map (.tmp t::·)
 | .cell a t::l=>match kD P t,iV P l with
   | some n,some l=>some (.cell a n::l)
   | _,_=>none
def dO (P:Program) (eqs:List TypeId) (its:List fm) (fn:Func):Option aE :=
 match fn.body with
 | some c=>match bI P eqs its c,iV P fn.results.toList with
   | some s,some r=>some ⟨fn.ntmps,r,s⟩
   | _,_=>none
 | none=>none
def fj (w0:World) (sl:List ab) (lh:List ac):List tV->(List ab->Prop)->Prop
 | [],K=>K []
 | .tmp t::l,K=>fj w0 sl lh l fun vs=>K (sl.getD t .any::vs)
 | .cell t n::l,K=>match sl.getD t .any with
   | .ptr (some p)=>match n with
     | none=>∃ v,ld w0 lh p=some v/\fj w0 sl lh l fun vs=>K (v::vs)
     | some n=>∃ cs,lds w0 lh p n=some cs/\fj w0 sl lh l fun vs=>K (.agg cs::vs)
   | _=>False
def mG:List ab->ab
 | [v]=>v
 | vs=>.tup vs
def Rf (w0:World) (res:List tV) (K:ab->List ac->Prop):Ex->List ab->List ac->Prop
 | .normal,sl,lh=>fj w0 sl lh res fun vs=>K (mG vs) lh
 | .ret,sl,lh=>fj w0 sl lh res fun vs=>K (mG vs) lh
 | .exit _,_,_=>False
def AI (w0:World) (S:FuncId->bf) (f:aE) (args:List ab) (lh:List ac) (K:ab->List ac->Prop):Prop :=
 bj w0 S lh.length f.body (args++List.replicate (f.ntmps - args.length) .any) lh (Rf w0 f.res K)
def Ret (nb:Nat) (K:ab->List ac->Prop) (r:ab) (lh:List ac):Prop:=∃ r1 lh1,Sub nb [r] lh [r1] lh1/\K r1 lh1
mutual
theorem Cf:∀ a:ab,ren id a=a
 | .int ..=>by simp only [ren]
 | .bool ..=>by simp only [ren]
 | .str ..=>by simp only [ren]
 | .ptr none=>by simp only [ren]
 | .ptr (some (.g _))=>by simp only [ren]
 | .ptr (some (.l k off))=>by simp only [ren,id]
 | .slice none _ _=>by simp only [ren]
 | .slice (some (.g _)) _ _=>by simp only [ren]
 | .slice (some (.l k off)) _ _=>by simp only [ren,id]
 | .fn f xs ys=>by simp only [ren]; rw [mh xs,mh ys]
 | .agg cs=>by simp only [ren]; rw [mh cs]
 | .tup cs=>by simp only [ren]; rw [mh cs]
 | .raw _=>by simp only [ren]
 | .any=>by simp only [ren]
theorem mh:∀ l:List ab,qh id l=l
 | []=>by simp only [qh]
 | a::l=>by simp only [qh]; rw [Cf a,mh l]
end
mutual
theorem vX {p q:Nat->Prop} (h:∀ k,p k->q k):∀ a:ab,inN p a->inN q a
 | .int ..,_=>by simp only [inN]
 | .bool ..,_=>by simp only [inN]
 | .str ..,_=>by simp only [inN]
 | .ptr none,_=>by simp only [inN]
 | .ptr (some (.g _)),_=>by simp only [inN]
 | .ptr (some (.l k off)),hp=>by simp only [inN] at *; exact h k hp
 | .slice none _ _,_=>by simp only [inN]
 | .slice (some (.g _)) _ _,_=>by simp only [inN]
 | .slice (some (.l k off)) _ _,hp=>by simp only [inN] at *; exact h k hp
 | .fn f xs ys,hp=>by simp only [inN] at *; exact ⟨fS h xs hp.1,fS h ys hp.2⟩
 | .agg cs,hp=>by simp only [inN] at *; exact fS h cs hp
 | .tup cs,hp=>by simp only [inN] at *; exact fS h cs hp
 | .raw _,_=>by simp only [inN]
 | .any,_=>by simp only [inN]
theorem fS {p q:Nat->Prop} (h:∀ k,p k->q k):∀ l:List ab,fv p l->fv q l
 | [],_=>by simp only [fv]
 | a::l,hp=>by simp only [fv] at *; exact ⟨vX h a hp.1,fS h l hp.2⟩
end
theorem na {p:Nat->Prop}:∀ {l:List ab},fv p l->il p id l l
 | [],_=>by simp only [il]
 | a::l,h=>by simp only [fv] at h; simp only [il]; exact ⟨.inr ⟨h.1,(Cf a).symm⟩,na h.2⟩
mutual
theorem yK {m:ao} {p:Nat->Prop} (h:∀ k b,m k=some b->p k):∀ (a:ab) (v:Value),vrel m a v->inN p a
 | .int ..,_,_=>by simp only [inN]
 | .bool ..,_,_=>by simp only [inN]
 | .str ..,_,_=>by simp only [inN]
 | .ptr none,_,_=>by simp only [inN]
 | .ptr (some (.g _)),_,_=>by simp only [inN]
 | .ptr (some (.l k off)),_,hv=>by simp only [vrel,bN] at hv; obtain ⟨_,_,b,hb,_⟩:=hv; simp only [inN]; exact h k b hb
 | .slice none _ _,_,_=>by simp only [inN]
 | .slice (some (.g _)) _ _,_,_=>by simp only [inN]
 | .slice (some (.l k off)) _ _,_,hv=>by simp only [vrel,bN] at hv; obtain ⟨_,_,b,hb,_⟩:=hv; simp only [inN]; exact h k b hb
 | .fn _ xs ys,_,hv=>by simp only [vrel] at hv; obtain ⟨us,vs,_,h2,h3⟩:=hv; simp only [inN]; exact ⟨dC h xs _ h2,dC h ys _ h3⟩
 | .agg cs,_,hv=>by simp only [vrel] at hv; obtain ⟨vs,_,h2⟩:=hv; simp only [inN]; exact dC h cs _ h2
 | .tup cs,_,hv=>by simp only [vrel] at hv; obtain ⟨vs,_,h2⟩:=hv; simp only [inN]; exact dC h cs _ h2
 | .raw _,_,_=>by simp only [inN]
 | .any,_,_=>by simp only [inN]
theorem dC {m:ao} {p:Nat->Prop} (h:∀ k b,m k=some b->p k):∀ (l:List ab) (vs:List Value),af m l vs->fv p l
 | [],_,_=>by simp only [fv]
 | a::l,_,hv=>by simp only [af] at hv; obtain ⟨u,us,_,h2,h3⟩:=hv; simp only [fv]; exact ⟨yK h a u h2,dC h l us h3⟩
end
def WF (lh:List ac):Prop:=∀ (k:Nat) (cs:List ab) (ty:TypeId),lh[k]? = some (.cells cs ty)->fv (fun j=>j < lh.length) cs
theorem aw.wf {B:bm} {m:ao} {lh:List ac} {w:World} (h:aw B m lh w):WF lh:=fun k cs ty hk=>by
 obtain ⟨b,vs,_,hvs,_⟩:=h.loc k cs ty hk
 exact dC (fun j b hb=>Classical.byContradiction fun hn=>by rw [h.dom j (by omega)] at hb; cases hb) cs _ hvs
section
variable {P:Program} {S:FuncId->bf} {eqs:List TypeId}
theorem gV {B:bm} {m:ao} {sl:List ab} {lh:List ac} {a:Act} {w:World} (hs:SR B m sl lh a w):∀ (rs:List ResultVar) (xs:List tV) (K:List ab->Prop),iV P rs=some xs->fj B.w0 sl lh xs K ->
 ∃ ys vs,af m ys vs/\K ys/\(rs.mapM (resV a.tmps)).run P w=.ok vs w
 | [],xs,K,hc,hv=>by simp only [iV,Option.some.injEq] at hc; subst hc; exact ⟨[],[],by simp [af],hv,rfl⟩
 | .tmp t::rs,xs,K,hc,hv=>by
   simp only [iV,Option.map_eq_some_iff] at hc
   obtain ⟨l,hl,rfl⟩:=hc
   simp only [fj] at hv
   obtain ⟨ys,vs,h1,h2,h3⟩:=gV hs rs l _ hl hv
   refine ⟨_,a.tmps.getD t undef::vs,?_,h2,?_⟩
   ·simp only [af]; exact ⟨_,_,rfl,by simpa using iW hs.1 t undef,h1⟩
   ·simp only [List.mapM_cons]; rw [aa (a:=a.tmps.getD t undef) (w':=w) rfl,aa h3]; rfl
 | .cell b t::rs,xs,K,hc,hv=>by
   simp only [iV] at hc
   split at hc
   ·rename_i n l hn hl
    cases hc
    simp only [fj] at hv
    have hb:vrel m (sl.getD b .any) (a.tmps.getD b undef):=by simpa using iW hs.1 b undef
    split at hv
    ·rename_i p hp
     rw [hp] at hb
     obtain ⟨q,hq,hpq⟩:=fh hb
     obtain ⟨d,hd,hag⟩:=gr hn
     cases n with
     | none =>
       obtain ⟨x,hx,hv⟩:=hv
       obtain ⟨ad,v,rfl,hcell,hr⟩:=xl hs.2.2 hpq hx
       obtain ⟨ys,vs,h1,h2,h3⟩:=gV hs rs l _ hl hv
       refine ⟨_,v::vs,by simp only [af]; exact ⟨_,_,rfl,hr,h1⟩,h2,?_⟩
       rcases hag with ⟨_,k,hk,_⟩ | ⟨h4,_⟩
       ·cases hk
       ·simp only [List.mapM_cons]
        rw [aa (a:=v) (w':=w) (by
         simp only [resV]; rw [hq,aa (a:=ad) (w':=w) rfl]; unfold loadVar; rw [aa (fQ hd w),h4]; exact qX hcell)]
        rw [aa h3]; rfl
     | some n =>
       obtain ⟨x,hx,hv⟩:=hv
       obtain ⟨ad,us,rfl,hrun,hr⟩:=nL (P:=P) hs.2.2 hpq hx
       obtain ⟨ys,vs,h1,h2,h3⟩:=gV hs rs l _ hl hv
       refine ⟨_,.agg us::vs,by simp only [af]; exact ⟨_,_,rfl,by simp only [vrel]; exact ⟨_,rfl,hr⟩,h1⟩,h2,?_⟩
       rcases hag with ⟨h4,k,hk,h5⟩ | ⟨_,hk⟩
       ·cases hk
        simp only [List.mapM_cons]
        rw [aa (a:=Value.agg us) (w':=w) (by
         simp only [resV]; rw [hq,aa (a:=ad) (w':=w) rfl]; unfold loadVar; rw [aa (fQ hd w),h4]; simp only [if_true]; rw [aa (bu h5 w),aa hrun]; rfl)]
        rw [aa h3]; rfl
       ·cases hk
    ·exact hv.elim
   ·cases hc
theorem tG {B:bm} {w:World} {D:Nat} {o:Obj}:∀ {ds:List Deferred},(∀ d' ∈ ds,d'.target ≠ .collected D)->gw B ds w->gw B ds (w.putObj D o)
 | [],_,_=>trivial
 | d::ds,hn,⟨D',h1,h2,h3,h4,h5⟩=>⟨D',h1,(World.putObj_heap_other (fun e=>by subst e; exact hn d List.mem_cons_self (by rw [h1]))).trans h2,h3,h4,tG (fun d' hd=>hn d' (List.mem_cons_of_mem _ hd)) h5⟩
theorem nB {its : List fm} {f : FuncId} {fn : Func} {sf : aE} {Sp : bf} (hS : ∀ g, (S g).Ok P g) (hE : ∀ t ∈ eqs, cm P t) (hI : jK P eqs its) (hf : P.funcs[f]? = some fn) (hn : (fn.name == "runtime.NumGoroutine") = false) (hc : dO P eqs its fn = some sf)
 (h:∀ w0 args lh K,WF lh->fv (fun j=>j < lh.length) args->Sp w0 args lh K->AI w0 S sf args lh (Ret lh.length K)):Sp.Sound P f:=by
 intro B m lh w args vs K hrel hargs hsp
 have hv:=h B.w0 args lh K hrel.wf (dC (fun j b hb=>Classical.byContradiction fun hn=>by rw [hrel.dom j (by omega)] at hb; cases hb) args vs hargs) hsp
 unfold dO at hc
 split at hc
 ·rename_i c hb
  split at hc
  ·rename_i s rs hs hr
   cases hc
   refine ⟨⟨fn,hf,hn,by rw [hb]; rfl⟩,?_⟩
   refine (callsIn_wide (n:=0)).1 (callsIn_of_wp_marks hf hb trivial (wpIn_mono (vo hS hE hI c Fence.wide 0 lh.length B s _ lh m _ w _ sP (.inl rfl) hs ?_ hv) fun e a w' hq=>?_))
   ·refine ⟨?_,trivial,hrel⟩
    simp only [Array.toList_append,Array.toList_replicate,List.size_toArray]
    rw [bo hargs]
    exact bC (by simpa using hargs) (cO _ _)
   ·obtain ⟨x,sl,lh',m',rfl,h1,h2,_,h3⟩:=hq
    have key:fj B.w0 sl lh' rs (fun vs=>Ret lh.length K (mG vs) lh')->∀ (ds:List Deferred) (w1:World),gw B ds w1->SR B m' sl lh' { a with defers:=[] } w1->LeavesInM Fence.wide 0 P fn a.tmps (fun e w'=>∃ v r m' lh',e=.returned v/\vrel m' r v/\Ext lh m lh' m'/\aw B m' lh' w'/\K r lh') ds .returning w1:=fun hv ds=>by
     induction ds with
     | nil =>
       intro w1 _ hs1
       obtain ⟨ys,us,g1,g2,g3⟩:=gV hs1 fn.results.toList rs _ hr hv
       obtain ⟨r1,lh1,hsub,hK⟩:=g2
       have hone:vrel m' (mG ys) (nU us):=by
        match ys,g1 with
        | [],g1=>simp only [af] at g1; subst g1; simp [mG,nU,vrel,af]
        | [y],g1=>simp only [af] at g1; obtain ⟨u,us',rfl,g4,rfl⟩:=g1; exact g4
        | y::z::l,g1 =>
          have g1':=g1
          simp only [af] at g1'
          obtain ⟨u,us1,rfl,_,u2,us2,rfl,_⟩:=g1'
          simp only [mG,nU,vrel]
          exact ⟨_,rfl,by simpa using g1⟩
       obtain ⟨m1,hs2,he1⟩:=hsub.rel (B:={ B with ds:=[] }) (a:=⟨#[nU us],[]⟩) (m:=m') (w:=w1) ⟨by simp only [af]; exact ⟨_,_,rfl,hone,rfl⟩,rfl,hs1.2.2.withDs _⟩
       have hr1:=hs2.1
       simp only [af] at hr1
       obtain ⟨u,us',e,g5,_⟩:=hr1
       simp at e
       exact ⟨_,jI g3,_,r1,m1,lh1,rfl,by rw [e.1]; exact g5,xg hrel (h2.trans he1),hs2.2.2.noDs,hK⟩
     | cons d ds ih =>
       intro w1 hm hs1
       obtain ⟨D,rfl,hD,hb,hd,hm'⟩:=hm
       refine ⟨by simp,.inl ⟨D,_,rfl,run_takeDeferred hD,ih _ ?_ ⟨hs1.1,trivial,hs1.2.2.putObj hD rfl hb.1 hb.2 _⟩⟩⟩
       refine tG hd hm'
    cases x with
    | normal=>exact key h3 a.defers w' h1.2.1 ⟨h1.1,trivial,h1.2.2⟩
    | exit i=>exact h3.elim
    | ret=>exact key h3 a.defers w' h1.2.1 ⟨h1.1,trivial,h1.2.2⟩
  ·cases hc
 ·cases hc
end
end Go.Sx
namespace Go.Sx
def IC:bf:=fun _ _ _ _=>False
section
variable {P:Program} {eqs:List TypeId}
theorem DZ (f:FuncId):IC.Ok P f:=⟨fun _ _ _ _ _ _ _ _ _ h=>h.elim,fun _ _ _ _ _ _ h=>h.elim,fun _ _ _ _ h=>h.elim⟩
end
theorem Dq {lh l:List ac} {K:ab->List ac->Prop} {r:ab} (h:inN (fun k=>k < lh.length) r) (hc:WF lh) (hK:K r lh):Ret lh.length K r (lh++l):=by
 refine ⟨r,lh,.inr ⟨id,fun _ _=>rfl,Nat.le_refl _,fun k hk _=>(List.getElem?_append_left hk).symm,?_,fun k cs ty hk=>⟨cs,?_,?_⟩,fun _ _ _ _ h=>h⟩,hK⟩
 ·exact na (by simp only [fv]; exact ⟨vX (fun k hk=>.inl hk) r h,trivial⟩)
 ·rw [id,List.getElem?_append_left (List.getElem?_eq_some_iff.1 hk).1]; exact hk
 ·exact na (fS (fun k hk=>.inl hk) cs (hc k cs ty hk))
end Go.Sx
