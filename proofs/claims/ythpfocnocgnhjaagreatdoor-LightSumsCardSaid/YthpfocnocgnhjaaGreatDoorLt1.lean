/- Part 1 of a proof. No conditions. -/
import Derived.CallsIn
import Derived.Laws.Entries
import Derived.OrdersIn
set_option maxRecDepth 100000
set_option linter.unusedVariables false
set_option linter.unusedSimpArgs false
abbrev aaw:=@Bool.and_eq_true
abbrev aax:=@Nat.eq_of_beq_eq_true
abbrev aaB:=@Option.some.injEq
abbrev aaD:=@Option.map_eq_some_iff
abbrev aaF:=@Nat.le_of_ble_eq_true
abbrev aaQ:=@List.getElem?_append_left
abbrev aaS:=@Nat.le_refl
abbrev aaT:=@if_neg
abbrev aaZ:=@List.getElem?_set
abbrev abg:=@of_decide_eq_true
abbrev abm:=@List.getElem?_eq_none
abbrev abt:=@Nat.mul_le_mul_right
abbrev abu:=@of_decide_eq_false
abbrev abv:=@List.getElem?_append_right
abbrev aby:=@if_pos
abbrev abA:=@List.cons.injEq
abbrev abN:=@decide_eq_true_eq
abbrev abW:=@Option.map_some
abbrev ach:=@List.getElem?_eq_getElem
abbrev acm:=@Int.toNat_natCast
abbrev acx:=@List.getElem?_cons_succ
abbrev acF:=@List.getElem?_append
abbrev acK:=@Nat.zero_le
abbrev acM:=@List.getElem?_cons_zero
abbrev adg:=@Bool.false_eq_true
abbrev adm:=@Nat.succ_mul
abbrev adr:=@Nat.ble_eq_true_of_le
abbrev adx:=@List.mem_cons_of_mem
abbrev adM:=@List.length_cons
abbrev adT:=@List.all_cons
abbrev aeb:=@Nat.zero_add
abbrev aft:=@List.length_append
abbrev afz:=@List.getElem?_take
abbrev afT:=@Int.mul_le_mul_of_nonneg_right
abbrev agn:=@true_and
abbrev agE:=@List.ext_getElem?
abbrev ahs:=@Nat.lt_of_lt_of_le
abbrev ahB:=@List.getElem?_drop
abbrev ahC:=@List.map_cons
abbrev ahE:=@List.mem_cons_self
abbrev ahG:=@List.mem_cons
abbrev aia:=@Bool.not_eq_true'
abbrev ajd:=@Int.tdiv_eq_ediv_of_nonneg
abbrev ajf:=@Nat.le_trans
abbrev ajG:=@List.length_nil
abbrev ajK:=@List.take_append_of_le_length
abbrev ajL:=@if_false
abbrev ajM:=@Array.toList_inj
abbrev ajN:=@Int.fdiv_eq_ediv_of_nonneg
abbrev ajO:=@List.take_of_length_le
abbrev ajP:=@List.length_reverse
abbrev ajQ:=@Bool.or_eq_true
abbrev ajR:=@List.not_mem_nil
abbrev ajS:=@Array.toList_map
abbrev ajT:=@List.drop_drop
abbrev ajU:=@beq_iff_eq
abbrev ajV:=@eq_of_beq
abbrev ajW:=@Nat.add_mul
abbrev ajX:=@List.replicate_succ
abbrev ajZ:=@Nat.add_zero
abbrev akg:=@Bool.not_not
abbrev akl:=@Nat.mul_le_mul
abbrev alF:=@List.take_take
abbrev amg:=@List.mem_of_getElem?
abbrev amO:=@List.append_assoc
abbrev amS:=@Array.getElem?_replicate
abbrev amW:=@if_true
abbrev anf:=@List.map_congr_left
abbrev anm:=@Array.length_toList
abbrev ann:=@Array.getElem?_push
abbrev anv:=@List.range'_succ
abbrev anA:=@List.drop_append_of_le_length
abbrev anT:=@List.all_eq_true
abbrev aoa:=@Nat.min_eq_left
abbrev aox:=@List.getElem?_toArray
abbrev aoW:=@and_true
abbrev aoY:=@Nat.add_assoc
abbrev aoZ:=@List.reverse_cons
abbrev apb:=@Bool.not_true
abbrev apc:=@List.mem_append_left
abbrev apd:=@List.getElem?_mapIdx
abbrev ape:=@Bool.not_false
abbrev apg:=@Array.getElem?_eq_getElem
abbrev aph:=@List.length_drop
abbrev api:=@List.cons_append
abbrev apk:=@Bool.cond_eq_ite
abbrev apl:=@Nat.beq_refl
abbrev apm:=@List.map_nil
abbrev apn:=@Option.map_none
abbrev apw:=@List.pairwise_cons
abbrev apz:=@List.append_nil
abbrev apC:=@Bool.eq_iff_iff
abbrev apD:=@Array.getElem?_eq_none
abbrev apF:=@not_true_eq_false
abbrev apH:=@List.flatten_cons
abbrev apJ:=@List.mapM_cons
abbrev apM:=@List.drop_take
abbrev apN:=@Nat.ne_of_lt
abbrev aqb:=@Nat.lt_or_ge
abbrev aqd:=@List.take_append_drop
abbrev aqj:=@Option.getD_some
abbrev aqk:=@List.length_tail
abbrev aqs:=@List.range_eq_range'
abbrev aqu:=@List.mem_of_mem_tail
abbrev aqA:=@and_self
abbrev aqB:=@Bool.and_self
abbrev aqI:=@beq_eq_false_iff_ne
abbrev aqK:=@List.mem_append
abbrev aqL:=@Array.toList_append
abbrev aqM:=@Array.getD_eq_getD_getElem?
abbrev aqN:=@List.getD_eq_getElem?_getD
abbrev aqV:=@Array.toList_setIfInBounds
abbrev ari:=@Nat.add_comm
abbrev ark:=@Int.natCast_nonneg
abbrev arm:=@decide_eq_true
abbrev arp:=@Array.setIfInBounds_comm
abbrev arw:=@forall_eq_or_imp
abbrev arD:=@List.length_take
namespace Go.Sx
inductive gR where
 |l (k off:Nat)
 |g (a:Addr)
inductive ak where
 |int (k:IntKind) (n:Int)
 |bool (b:Bool)
 |str (s:ByteArray)
 |ptr (p:Option gR)
 |slice (p:Option gR) (len cap:Nat)
 |fn (f:Fn) (first caps:List ak)
 |agg (cs:List ak)
 |tup (vs:List ak)
 |raw (v:Value)
 |any
inductive ao where
 |dead
 |hid
 |cells (cs:List ak) (ty:TypeId)
abbrev aF:=Nat->Option Nat
def dC (m:aF):Option gR->Option Addr->Prop
 |none,q=>q=none
 |some (.g a),q=>q=some a
 |some (.l k off),q=>∃ b,m k=some b/\q=some ⟨b,off,none⟩
mutual
def vrel (m:aF):ak->Value->Prop
 |.int k n,v=>v=.int k n
 |.bool b,v=>v=.bool b
 |.str s,v=>v=.string s
 |.ptr p,v=>∃ q,v=.pointer q/\dC m p q
 |.slice p n c,v=>∃ q,v=.slice q n c/\dC m p q
 |.fn f xs ys,v=>∃ us vs,v=.func f us vs/\ar m xs us.toList/\ar m ys vs.toList
 |.agg cs,v=>∃ vs,v=.agg vs/\ar m cs vs.toList
 |.tup cs,v=>∃ vs,v=.tuple vs/\ar m cs vs.toList
 |.raw u,v=>v=u
 |.any,_=>True
def ar (m:aF):List ak->List Value->Prop
 |[],vs=>vs=[]
 |x::xs,vs=>∃ u us,vs=u::us/\vrel m x u/\ar m xs us
end
def aF.le (m m':aF):Prop:=∀ k b,m k=some b->m' k=some b
theorem aF.le_refl (m:aF):m.le m:=fun _ _ h=>h
theorem aF.le_trans {a b c:aF} (h:a.le b) (k:b.le c):a.le c:=fun i x hx=>k i x (h i x hx)
theorem yV {m m':aF} (h:m.le m'):∀ {p q},dC m p q->dC m' p q
 |none,_,hp=>hp
 |some (.g _),_,hp=>hp
 |some (.l _ _),_,⟨b,hb,hq⟩=>⟨b,h _ _ hb,hq⟩
mutual
theorem Lm {m m':aF} (h:m.le m'):∀ (a:ak) (v:Value),vrel m a v->vrel m' a v
 |.int ..,_,hv=>by simp only[vrel]at hv ⊢;exact hv
 |.bool ..,_,hv=>by simp only[vrel]at hv ⊢;exact hv
 |.str ..,_,hv=>by simp only[vrel]at hv ⊢;exact hv
 |.ptr ..,_,hv=>by simp only[vrel]at hv ⊢;obtain⟨q,h1,h2⟩:=hv;exact⟨q,h1,yV h h2⟩
 |.slice ..,_,hv=>by simp only[vrel]at hv ⊢;obtain⟨q,h1,h2⟩:=hv;exact⟨q,h1,yV h h2⟩
 | .fn _ xs ys,_,hv=>by
   simp only [vrel]at hv ⊢;obtain⟨us,vs,h1,h2,h3⟩:=hv;exact⟨us,vs,h1,cA h xs _ h2,cA h ys _ h3⟩
 |.agg cs,_,hv=>by simp only[vrel]at hv ⊢;obtain⟨vs,h1,h2⟩:=hv;exact⟨vs,h1,cA h cs _ h2⟩
 |.tup cs,_,hv=>by simp only[vrel]at hv ⊢;obtain⟨vs,h1,h2⟩:=hv;exact⟨vs,h1,cA h cs _ h2⟩
 |.raw _,_,hv=>by simp only[vrel]at hv ⊢;exact hv
 |.any,_,_=>by simp only[vrel]
theorem cA {m m':aF} (h:m.le m'):∀ (az:List ak) (vs:List Value),ar m az vs->ar m' az vs
 |[],_,hv=>by simp only[ar]at hv ⊢;exact hv
 | a::az,_,hv=>by
   simp only [ar]at hv ⊢;obtain⟨u,us,h1,h2,h3⟩:=hv;exact⟨u,us,h1,Lm h a u h2,cA h az us h3⟩
end
theorem cv {m:aF}:∀ {az:List ak} {vs:List Value},ar m az vs->vs.length=az.length
 |[],_,h=>by simp only[ar]at h;subst h;rfl
 |_::_,_,h=>by simp only[ar]at h;obtain⟨u,us,rfl,_,h3⟩:=h;simp[cv h3]
theorem hU {m:aF}:∀ {az:List ak} {vs:List Value} (i:Nat) {a:ak},ar m az vs->az[i]? = some a->∃ v,vs[i]? = some v/\vrel m a v
 |[],_,_,_,_,h=>by simp at h
 | _::_,_,0,_,hr,h=>by
   simp only [ar]at hr;obtain⟨u,us,rfl,h2,_⟩:=hr
   simp at h;subst h;exact⟨u,rfl,h2⟩
 | _::_,_,i+1,_,hr,h=>by
   simp only [ar]at hr;obtain⟨u,us,rfl,_,h3⟩:=hr
   simp at h
   obtain ⟨v,hv,hr⟩:=hU i h3 h
   exact ⟨v,by simpa using hv,hr⟩
theorem mz {m:aF} {az:List ak} {vs:List Value} (h:ar m az vs) (i:Nat) (d:Value):vrel m (az.getD i .any) (vs.getD i d):=by
 cases ha:az[i]? with
 |none=>simp[List.getD,ha,vrel]
 | some a =>
   obtain ⟨v,hv,hr⟩:=hU i h ha
   simp [List.getD,ha,hv,hr]
theorem jH {m:aF}:∀ {az:List ak} {vs:List Value} (i:Nat) {a:ak} {v:Value},ar m az vs->vrel m a v->ar m (az.set i a) (vs.set i v)
 |[],_,_,_,_,h,_=>by simp only[ar]at h;subst h;simp[ar]
 | _::_,_,0,_,_,hr,h=>by
   simp only [ar]at hr;obtain⟨u,us,rfl,h2,h3⟩:=hr
   simp only [List.set_cons_zero,ar];exact⟨_,_,rfl,h,h3⟩
 | _::_,_,i+1,_,_,hr,h=>by
   simp only [ar]at hr;obtain⟨u,us,rfl,h2,h3⟩:=hr
   simp only [List.set_cons_succ,ar];exact⟨_,_,rfl,h2,jH i h3 h⟩
theorem dF {m:aF}:∀ {az bs:List ak} {us vs:List Value},ar m az us->ar m bs vs->ar m (az++bs) (us++vs)
 |[],_,_,_,h,k=>by simp only[ar]at h;subst h;simpa using k
 | _::_,_,_,_,h,k=>by
   simp only [ar]at h;obtain⟨u,us,rfl,h2,h3⟩:=h
   simp only [api,ar];exact⟨_,_,rfl,h2,dF h3 k⟩
theorem eJ {m:aF}:∀ {az:List ak} {vs:List Value} (i:Nat),ar m az vs->ar m (az.take i) (vs.take i)
 |[],_,i,h=>by simp only[ar]at h;subst h;simp[ar]
 |_::_,_,0,_=>by simp[ar]
 | _::_,_,i+1,h=>by
   simp only [ar]at h;obtain⟨u,us,rfl,h2,h3⟩:=h
   simp only [List.take_succ_cons,ar];exact⟨_,_,rfl,h2,eJ i h3⟩
theorem fx {m:aF}:∀ {az:List ak} {vs:List Value} (i:Nat),ar m az vs->ar m (az.drop i) (vs.drop i)
 |[],_,i,h=>by simp only[ar]at h;subst h;simp[ar]
 |_::_,_,0,h=>h
 | _::_,_,i+1,h=>by
   simp only [ar]at h;obtain⟨u,us,rfl,h2,h3⟩:=h
   simp only [List.drop_succ_cons];exact fx i h3
theorem fI {m:aF}:∀ (n:Nat) (v:Value),ar m (List.replicate n .any) (List.replicate n v)
 |0,_=>by simp[ar]
 |n+1,v=>by simp only[ajX,ar];exact⟨_,_,rfl,by simp[vrel],fI n v⟩
def lP:Value->Bool
 |.agg _|.tuple _=>false
 |_=>true
def ak.cells:ak->List ak
 |.agg cs=>cs
 |a=>[a]
def ak.one:ak->Bool
 |.agg _|.tup _|.any=>false
 |.raw v=>lP v
 |_=>true
def ak.flat:ak->Bool
 |.agg cs=>cs.all ak.one
 |a=>a.one
theorem BJ {m:aF} {a:ak} {v:Value} (h:vrel m a v) (h1:a.one=true):lP v=true:=by
 cases a<;>simp only[vrel]at h
 case int=>subst h;rfl
 case bool=>subst h;rfl
 case str=>subst h;rfl
 case ptr=>obtain⟨q,rfl,_⟩:=h;rfl
 case slice=>obtain⟨q,rfl,_⟩:=h;rfl
 case fn=>obtain⟨_,_,rfl,_⟩:=h;rfl
 case raw=>subst h;simpa[ak.one] using h1
 all_goals simp[ak.one]at h1
theorem sM {v:Value} (h:lP v=true):v.cells=#[v]:=by
 cases v<;>simp_all [lP,Value.cells]
theorem mg {m:aF} {a:ak} {v:Value} (h:vrel m a v) (h1:a.flat=true):ar m a.cells v.cells.toList/\∀ u∈v.cells.toList,lP u=true:=by
 cases a with
 | agg cs =>
   simp only [vrel]at h;obtain⟨vs,rfl,h2⟩:=h
   refine ⟨h2,?_⟩
   simp only [ak.flat]at h1
   simp only [Value.cells]
   generalize vs.toList=l at h2
   induction cs generalizing l with
   |nil=>simp only[ar]at h2;subst h2;simp
   | cons c cs ih =>
     simp only [ar]at h2;obtain⟨u,us,rfl,h3,h4⟩:=h2
     simp only [adT,aaw]at h1
     intro x hx
     rcases List.mem_cons.1 hx with rfl|hx
     ·exact BJ h3 h1.1
     ·exact ih h1.2 us h4 x hx
 | _ =>
   have h3:=BJ h (by simpa[ak.flat] using h1)
   rw [sM h3]
   exact ⟨by simp only[ak.cells,ar];exact⟨_,_,rfl,h,rfl⟩,by simpa using h3⟩
structure cY where
 w0:World
 wf:World
 own:Nat->Prop
 ds:List Deferred
structure a7 (B:cY) (m:aF) (lh:List ao) (w:World):Prop where
 os:w.os=B.wf.os
 tape:w.tape=B.wf.tape
 output:w.output=B.wf.output
 size:B.w0.heap.size<=w.heap.size
 old:∀ b,b<B.w0.heap.size->w.heap[b]? = B.w0.heap[b]?
 fsize:B.wf.heap.size<=w.heap.size
 kept:∀ b,b<B.wf.heap.size->¬ B.own b->w.heap[b]? = B.wf.heap[b]?
 loc:∀ k cs ty,lh[k]? = some (.cells cs ty)->∃ b vs,m k=some b/\ar m cs vs.toList/\w.heap[b]? = some (.cells vs ty (0,0))/\B.w0.heap.size<=b/\(B.wf.heap.size<=b∨B.own b)
 inj:∀ k k' b cs cs' ty ty',lh[k]? = some (.cells cs ty)->lh[k']? = some (.cells cs' ty')->m k=some b->m k'=some b->k=k'
 dom:∀ k,lh.length<=k->m k=none
 dead:∀ k,lh[k]? = some .dead->m k=none
 rng:∀ k b,m k=some b->b<w.heap.size
theorem a7.start (w:World):a7 ⟨w,w,fun _=>False,[]⟩ (fun _=>none) [] w :=
 ⟨rfl,rfl,rfl,aaS _,fun _ _=>rfl,aaS _,fun _ _ _=>rfl,fun _ _ _ h=>by simp at h,fun _ _ _ _ _ _ _ h=>by simp at h,fun _ _=>rfl,fun _ _=>rfl,fun _ _ h=>by cases h⟩
theorem a7.drew {B:cY} {m:aF} {lh:List ao} {w:World} (h:a7 B m lh w) (n:Nat):a7 B m lh { w with drawn:=n } :=
 ⟨h.os,h.tape,h.output,h.size,h.old,h.fsize,h.kept,h.loc,h.inj,h.dom,h.dead,h.rng⟩
theorem a7.cell {B:cY} {m:aF} {lh:List ao} {w:World} (h:a7 B m lh w) {k off:Nat} {cs:List ak} {ty:TypeId} {c:ak}
 (hk:lh[k]? = some (.cells cs ty)) (hc:cs[off]? = some c) {q:Option Addr} (hq:dC m (some (.l k off)) q) :
 ∃ b v,q=some ⟨b,off,none⟩/\m k=some b/\w.cell? ⟨b,off,none⟩=some v/\w.frozen? ⟨b,off,none⟩=false/\vrel m c v:=by
 obtain ⟨b,hb,rfl⟩:=hq
 obtain ⟨b',vs,hb',hvs,hh,_⟩:=h.loc k cs ty hk
 rw [hb]at hb';cases hb'
 obtain ⟨v,hv,hr⟩:=hU off hvs hc
 refine ⟨b,v,rfl,hb,?_,?_,hr⟩
 ·simp only[World.cell?,hh];simpa using hv
 ·simp[World.frozen?,hh]
theorem a7.cell_g {B:cY} {m:aF} {lh:List ao} {w:World} (h:a7 B m lh w) {a:Addr} {v:Value} (hc:B.w0.cell? a=some v):w.cell? a=some v:=by
 have hb:a.block<B.w0.heap.size:=by
  apply Classical.byContradiction;intro hn
  simp [World.cell?,apD (Nat.le_of_not_lt hn)]at hc
 simp only [World.cell?,h.old _ hb];exact hc
end Go.Sx
namespace Go.Sx
theorem MR {α β:Type} (P:Program):∀ (s:Sem α) (f:α->Sem β) (w:World),(s >>= f).run P w=match s.run P w with
 |.ok a w'=>(f a).run P w'
 |.halt h w'=>.halt h w':=by
 intro s f
 show ∀ w,(Sem.bind s f).run P w=_
 induction s with
 |pure a=>intro w;rfl
 | load m a k ih =>
   intro w;simp only[Sem.bind,Sem.run]
   split
   ·exact ih _ _
   ·split
    ·exact ih _ _
    ·rfl
 | store m a v k ih =>
   intro w
   cases v<;>simp only[Sem.bind,Sem.run]<;>first
    |rfl
    | (split
       ·split
        ·rfl
        ·exact ih _
       ·split
        ·exact ih _
        ·rfl)
 |new o k ih=>intro w;simp only[Sem.bind,Sem.run];exact ih _ _
 |shape r k ih=>intro w;simp only[Sem.bind,Sem.run];exact ih _ _
 |freeze a n k ih=>intro w;simp only[Sem.bind,Sem.run];exact ih _
 |frozen a k ih=>intro w;simp only[Sem.bind,Sem.run];exact ih _ _
 | getObj r k ih =>
   intro w;simp only[Sem.bind,Sem.run]
   split
   ·rfl
   ·exact ih _ _
   ·rfl
 | setObj r o k ih =>
   intro w;simp only[Sem.bind,Sem.run]
   split
   ·rfl
   ·exact ih _
   ·rfl
 | choose q k ih =>
   intro w;simp only[Sem.bind,Sem.run]
   split
   ·exact ih _ _
   ·exact ih _ _
 |sys c k ih=>intro w;simp only[Sem.bind,Sem.run];exact ih _ _
 |program k ih=>intro w;simp only[Sem.bind,Sem.run];exact ih _ _
 |mark m k ih=>intro w;simp only[Sem.bind,Sem.run];exact ih _
 |halt h=>intro w;rfl
theorem ab {α β:Type} {P:Program} {s:Sem α} {f:α->Sem β} {w w':World} {a:α} (h:s.run P w=.ok a w'):(s >>= f).run P w=(f a).run P w':=by
 rw [MR,h]
theorem a7.put {B:cY} {m:aF} {lh lh':List ao} {w:World} (h:a7 B m lh w) {p:Nat} {cs:List ak} {ty:TypeId} {vs:Array Value}
 (hp:m p=none) (hl:lh'[p]? = some (.cells cs ty)) (ho:∀ k,k ≠ p->lh'[k]? = lh[k]?) (hv:ar m cs vs.toList) :
 a7 B (fun k=>if k=p then some w.heap.size else m k) lh' { w with heap:=w.heap.push (.cells vs ty (0,0)) }/\m.le (fun k=>if k=p then some w.heap.size else m k):=by
 have hle:m.le (fun k=>if k=p then some w.heap.size else m k):=fun k b hk=>by
  have:k≠p:=fun e=>by rw[e,hp]at hk;cases hk
  simp [this,hk]
 refine ⟨⟨h.os,h.tape,h.output,by have:=h.size;simp;omega,fun b hb=>?_,by have:=h.fsize;simp;omega,fun b hb ho'=>?_,fun k cs' ty' hk=>?_,fun k k' b cs1 cs2 ty1 ty2 h1 h2 hb hb'=>?_,fun k hk=>?_,fun k hk=>?_,fun k b hk=>?_⟩,hle⟩
 ·have:=h.size
  rw [ann,aaT (by omega)];exact h.old b hb
 ·have:=h.fsize
  rw [ann,aaT (by omega)];exact h.kept b hb ho'
 ·by_cases e:k=p
  ·subst e
   rw [hl]at hk;cases hk
   exact ⟨w.heap.size,vs,by simp,cA hle _ _ hv,by simp,h.size,.inl h.fsize⟩
  ·rw[ho k e]at hk
   obtain ⟨b,us,hb,hus,hh,hbs⟩:=h.loc k cs' ty' hk
   refine ⟨b,us,by simp[e,hb],cA hle _ _ hus,?_,hbs⟩
   have:=h.rng k b hb
   show (w.heap.push _)[b]? = _
   rw [ann,aaT (by omega)];exact hh
 ·by_cases e:k=p<;>by_cases e':k'=p
  ·rw[e,e']
  ·simp only[e,amW]at hb;cases hb
   simp only [e',ajL]at hb'
   have:=h.rng k' _ hb';omega
  ·simp only[e',amW]at hb';cases hb'
   simp only [e,ajL]at hb
   have:=h.rng k _ hb;omega
  ·simp only[e,e',ajL]at hb hb'
   rw [ho k e]at h1;rw[ho k' e']at h2
   exact h.inj k k' b cs1 cs2 ty1 ty2 h1 h2 hb hb'
 ·have e:k≠p:=fun e=>by
   subst e;rw[abm hk]at hl;cases hl
  simp only [e,ajL]
  apply h.dom
  have:=ho k e
  rw [abm hk]at this
  exact List.getElem?_eq_none_iff.1 this.symm
 ·have e:k≠p:=fun e=>by subst e;rw[hl]at hk;cases hk
  simp only [e,ajL]
  exact h.dead k (by rw[← ho k e];exact hk)
 ·by_cases e:k=p
  ·simp only[e,amW]at hk;cases hk;simp
  ·simp only[e,ajL]at hk;have:=h.rng k b hk;simp;omega
theorem a7.push {B:cY} {m:aF} {lh:List ao} {w:World} (h:a7 B m lh w) {cs:List ak} {ty:TypeId} {vs:Array Value} (hv:ar m cs vs.toList) :
 a7 B (fun k=>if k=lh.length then some w.heap.size else m k) (lh++[.cells cs ty]) { w with heap:=w.heap.push (.cells vs ty (0,0)) } /\
  m.le (fun k=>if k=lh.length then some w.heap.size else m k) :=
 h.put (h.dom _ (aaS _)) (by simp) (fun k hk=>by
  rw [acF];split
  ·rfl
  ·rename_i hn
   rw [abm (by simp;omega),abm (by omega)]) hv
theorem a7.junk {B:cY} {m:aF} {lh:List ao} {w:World} (h:a7 B m lh w) (o:Obj):a7 B m lh { w with heap:=w.heap.push o } :=
 ⟨h.os,h.tape,h.output,by have:=h.size;simp;omega,fun b hb=>by have:=h.size;rw[ann,aaT (by omega)];exact h.old b hb,
  by have:=h.fsize;simp;omega,fun b hb ho=>by have:=h.fsize;rw[ann,aaT (by omega)];exact h.kept b hb ho,
  fun k cs ty hk=>by
   obtain ⟨b,vs,hb,hvs,hh,hs⟩:=h.loc k cs ty hk
   have:=h.rng k b hb
   exact ⟨b,vs,hb,hvs,by rw[ann,aaT (by omega)];exact hh,hs⟩,
  h.inj,h.dom,h.dead,fun k b hk=>by have:=h.rng k b hk;simp;omega⟩
theorem a7.set {B:cY} {m:aF} {lh:List ao} {w:World} (h:a7 B m lh w) {k off:Nat} {cs:List ak} {ty:TypeId} {x:ak} {v:Value} {b:Nat}
 (hk:lh[k]? = some (.cells cs ty)) (hb:m k=some b) (hx:vrel m x v) :
 a7 B m (lh.set k (.cells (cs.set off x) ty)) (w.setCell ⟨b,off,none⟩ v):=by
 obtain ⟨b',vs,hb',hvs,hh,hs,hs2⟩:=h.loc k cs ty hk
 rw [hb]at hb';cases hb'
 have hkl:k<lh.length:=(List.getElem?_eq_some_iff.1 hk).1
 have hget:∀ j,(lh.set k (.cells (cs.set off x) ty))[j]? = if k=j then some (.cells (cs.set off x) ty) else lh[j]? := fun j=>by
  rw [aaZ];split<;>simp_all
 have hheap:∀ i,(w.setCell ⟨b,off,none⟩ v).heap[i]? = if b=i then some (.cells (vs.setIfInBounds off v) ty (0,0)) else w.heap[i]? := fun i=>by
  simp only [World.setCell,Array.getElem?_modify]
  split
  ·rename_i e;subst e;simp[hh]
  ·rfl
 have hsz:(w.setCell ⟨b,off,none⟩ v).heap.size=w.heap.size:=by simp[World.setCell]
 refine ⟨h.os,h.tape,h.output,by rw[hsz];exact h.size,fun i hi=>?_,by rw[hsz];exact h.fsize,fun i hi ho=>?_,fun j cs' ty' hj=>?_,fun j j' i cs1 cs2 ty1 ty2 h1 h2 hi hi'=>?_,fun j hj=>?_,fun j hj=>?_,fun j i hj=>?_⟩
 ·rw[hheap,aaT (by omega)];exact h.old i hi
 ·rw[hheap,aaT (fun e=>by subst e;rcases hs2 with h1|h1;exact absurd hi (by omega);exact ho h1)];exact h.kept i hi ho
 ·rw [hget]at hj
  split at hj
  ·rename_i e;subst e
   cases hj
   refine ⟨b,vs.setIfInBounds off v,hb,?_,by rw[hheap,aby rfl],hs,hs2⟩
   rw [aqV];exact jH off hvs hx
  ·rename_i e
   obtain ⟨i,us,hi,hus,hhi,his⟩:=h.loc j cs' ty' hj
   refine ⟨i,us,hi,hus,?_,his⟩
   rw [hheap,aaT (fun e'=>e (h.inj k j b cs cs' ty ty' hk hj hb (by rw[hi,e'])))]
   exact hhi
 ·have f:∀ {j:Nat} {c:List ak} {t:TypeId},(lh.set k (ao.cells (cs.set off x) ty))[j]? = some (ao.cells c t)->∃ c' t',lh[j]? = some (ao.cells c' t'):=fun {j c t} hj=>by
   rw [hget]at hj;split at hj
   ·rename_i e;subst e;exact⟨_,_,hk⟩
   ·exact⟨_,_,hj⟩
  obtain ⟨c1,t1,g1⟩:=f h1
  obtain ⟨c2,t2,g2⟩:=f h2
  exact h.inj j j' i c1 c2 t1 t2 g1 g2 hi hi'
 ·exact h.dom j (by simpa using hj)
 ·rw[hget]at hj;split at hj
  ·cases hj
  ·exact h.dead j hj
 ·rw[hsz];exact h.rng j i hj
def wr:List ak->Nat->List ak->List ak
 |cs,_,[]=>cs
 |cs,off,x::xs=>wr (cs.set off x) (off+1) xs
theorem oW:∀ (xs cs:List ak) (off:Nat),(wr cs off xs).length=cs.length
 |[],_,_=>rfl
 |_::xs,cs,off=>by simp[wr,oW xs]
theorem lL (b off i:Nat):(⟨b,off,none⟩:Addr).add i=⟨b,off+i,none⟩:=by
 unfold Addr.add;split
 ·rename_i h;subst h;rfl
 ·rfl
theorem K5 {P:Program} {w:World} {a:Addr} {v:Value} {u:Value} (hv:lP v=true) (hc:w.cell? a=some u) (hf:w.frozen? a=false):(store a v).run P w=.ok () (w.setCell a v):=by
 cases v<;>simp_all [store,Sem.run,lP]
theorem a7.stores {B:cY} {m:aF} {P:Program} {k b off:Nat} {ty:TypeId} (hb:m k=some b):∀ (xs:List ak) (us:List Value) (cs:List ak) (lh:List ao) (w:World) (i:Nat),
 a7 B m lh w->lh[k]? = some (.cells cs ty)->off+i+xs.length<=cs.length->ar m xs us->(∀ u∈us,lP u=true) ->
 ∃ w',(storeCells ⟨b,off,none⟩ us i).run P w=.ok () w'/\a7 B m (lh.set k (.cells (wr cs (off+i) xs) ty)) w':=by
 intro xs
 induction xs with
 | nil =>
   intro us cs lh w i h hk hl hr _
   simp only [ar]at hr;subst hr
   refine ⟨w,by unfold storeCells;rfl,?_⟩
   have:lh.set k (.cells (wr cs (off+i) []) ty)=lh:=by
    apply agE; intro j
    rw [aaZ];split
    ·rename_i e;subst e
     obtain ⟨h1,h2⟩:=List.getElem?_eq_some_iff.1 hk
     simp [wr,h1,h2]
    ·rfl
   rw [this];exact h
 | cons x xs ih =>
   intro us cs lh w i h hk hl hr h1
   simp only [ar]at hr
   obtain ⟨u,us,rfl,hx,hr⟩:=hr
   have hlt:off+i<cs.length:=by simp at hl;omega
   obtain ⟨b',v,hq,hb',hc,hf,_⟩:=h.cell hk (ach hlt) ⟨b,hb,rfl⟩
   rw [hb]at hb';cases hb'
   have hs:=h.set (off:=off+i) hk hb hx
   have hkl:k<lh.length:=(List.getElem?_eq_some_iff.1 hk).1
   obtain ⟨w',hw',hrel⟩:=ih us (cs.set (off+i) x) (lh.set k (.cells (cs.set (off+i) x) ty)) (w.setCell ⟨b,off+i,none⟩ u) (i+1) hs (by simp[hkl]) (by simp at hl ⊢;omega) hr (fun u' hu'=>h1 u' (adx _ hu'))
   refine ⟨w',?_,?_⟩
   ·unfold storeCells
    rw [lL,ab (K5 (h1 u ahE) hc hf)]
    exact hw'
   ·rw[List.set_set]at hrel
    exact hrel
end Go.Sx
namespace Go.Sx
def bz:Value->ak
 |.int k n=>.int k n
 |.bool b=>.bool b
 |.string s=>.str s
 |.pointer none=>.ptr none
 |.pointer (some a)=>.ptr (some (.g a))
 |.slice none n c=>.slice none n c
 |.slice (some a) n c=>.slice (some (.g a)) n c
 |v=>.raw v
theorem bZ (m:aF) (v:Value):vrel m (bz v) v:=by
 cases v with
 |pointer a=>cases a<;>simp[bz,vrel,dC]
 |slice a n c=>cases a<;>simp[bz,vrel,dC]
 |_=>simp[bz,vrel]
def gR.add:gR->Nat->gR
 |.l k off,n=>.l k (off+n)
 |.g a,n=>.g (a.add n)
theorem qZ {m:aF} {p:gR} {q:Option Addr} (h:dC m (some p) q) (n:Nat):∃ a,q=some a/\dC m (some (p.add n)) (some (a.add n)):=by
 cases p with
 |l k off=>obtain⟨b,hb,rfl⟩:=h;exact⟨_,rfl,b,hb,by rw[lL]⟩
 |g a=>simp only[dC]at h;subst h;exact⟨a,rfl,rfl⟩
def fG (w0:World) (a:Addr):Nat->Nat->Option (List ak)
 |_,0=>some []
 | i,n+1=>match w0.cell? (a.add i),fG w0 a (i+1) n with
   |some v,some l=>some (bz v::l)
   |_,_=>none
def lds (w0:World) (lh:List ao):gR->Nat->Option (List ak)
 | .l k off,n=>match lh[k]? with
   |some (.cells cs _)=>if off+n<=cs.length then some ((cs.drop off).take n) else none
   |_=>none
 |.g a,n=>fG w0 a 0 n
def ld (w0:World) (lh:List ao):gR->Option ak
 | .l k off=>match lh[k]? with
   |some (.cells cs _)=>cs[off]?
   |_=>none
 |.g a=>(w0.cell? a).map bz
theorem BS {B:cY} {m:aF} {lh:List ao} {w:World} (h:a7 B m lh w) {p:gR} {q:Option Addr} (hq:dC m (some p) q) {x:ak} (hx:ld B.w0 lh p=some x) :
 ∃ a v,q=some a/\w.cell? a=some v/\vrel m x v:=by
 cases p with
 | l k off =>
   simp only [ld]at hx
   split at hx
   ·rename_i cs ty hk
    obtain ⟨b,v,h1,_,h3,_,h5⟩:=h.cell hk hx hq
    exact ⟨_,v,h1,h3,h5⟩
   ·cases hx
 | g a =>
   simp only [dC]at hq;subst hq
   simp only [ld,aaD]at hx
   obtain ⟨v,hv,rfl⟩:=hx
   exact ⟨a,v,rfl,h.cell_g hv,bZ m v⟩
theorem wC {P:Program} {w:World} {a:Addr} {v:Value} (h:w.cell? a=some v):(load a).run P w=.ok v w:=by
 simp [load,Sem.run,h]
theorem mF {P:Program} {w:World} {a:Addr}:∀ (vs:List Value) (i:Nat) (acc:Array Value),(∀ j v,vs[j]? = some v->w.cell? (a.add (i+j))=some v) ->
 (loadCellsFrom a i vs.length acc).run P w=.ok (acc++vs.toArray) w
 |[],i,acc,_=>by simp[loadCellsFrom]
 | v::vs,i,acc,h=>by
   simp only [adM,loadCellsFrom]
   have h0:w.cell? (a.add i)=some v:=by simpa using h 0 v rfl
   rw [ab (wC h0),mF vs (i+1) (acc.push v) (fun j u hu=>by have:=h (j+1) u (by simpa using hu);rw[← this];congr 2;omega)]
   simp
theorem d7 {w0:World} {a:Addr}:∀ (n i:Nat) (xs:List ak),fG w0 a i n=some xs->∃ vs:List Value,xs=vs.map bz/\vs.length=n/\∀ j v,vs[j]? = some v->w0.cell? (a.add (i+j))=some v
 |0,i,xs,h=>by simp only[fG,aaB]at h;subst h;exact⟨[],rfl,rfl,fun j v hv=>by simp at hv⟩
 | n+1,i,xs,h=>by
   simp only [fG]at h
   split at h
   ·rename_i v l hv hl
    cases h
    obtain ⟨vs,rfl,h2,h3⟩:=d7 n (i+1) l hl
    refine ⟨v::vs,rfl,by simp[h2],fun j u hu=>?_⟩
    cases j with
    |zero=>simp at hu;subst hu;exact hv
    |succ j=>have:=h3 j u (by simpa using hu);rw[← this];congr 2;omega
   ·cases h
theorem bT (m:aF):∀ vs:List Value,ar m (vs.map bz) vs
 |[]=>by simp[ar]
 |v::vs=>by simp only[ahC,ar];exact⟨_,_,rfl,bZ m v,bT m vs⟩
theorem sr {B:cY} {m:aF} {lh:List ao} {w:World} {P:Program} (h:a7 B m lh w) {p:gR} {q:Option Addr} (hq:dC m (some p) q) {n:Nat} {xs:List ak} (hx:lds B.w0 lh p n=some xs) :
 ∃ a vs,q=some a/\(loadCells a n).run P w=.ok vs w/\ar m xs vs.toList:=by
 cases p with
 | l k off =>
   simp only [lds]at hx
   split at hx
   ·rename_i cs ty hk
    split at hx
    ·rename_i hle
     cases hx
     obtain ⟨b,hb,rfl⟩:=hq
     obtain ⟨b',vs,hb',hvs,hh,_⟩:=h.loc k cs ty hk
     rw [hb]at hb';cases hb'
     have hl:=cv hvs
     have hr:=eJ n (fx off hvs)
     have hn:((vs.toList.drop off).take n).length=n:=by simp at hl ⊢;omega
     refine ⟨_,((vs.toList.drop off).take n).toArray,rfl,?_,by simpa using hr⟩
     have:=mF (P:=P) (w:=w) (a:=⟨b,off,none⟩) ((vs.toList.drop off).take n) 0 #[] (fun j v hv=>by
      rw [lL]
      rw [afz]at hv
      split at hv
      ·rw[ahB]at hv
       simp only [World.cell?,hh];simpa using hv
      ·cases hv)
     rw [hn]at this
     simpa [loadCells] using this
    ·cases hx
   ·cases hx
 | g a =>
   simp only [dC]at hq;subst hq
   obtain ⟨vs,rfl,h2,h3⟩:=d7 n 0 xs hx
   refine ⟨a,vs.toArray,rfl,?_,by simpa using bT m vs⟩
   have:=mF (P:=P) (w:=w) (a:=a) vs 0 #[] (fun j v hv=>h.cell_g (h3 j v hv))
   rw [h2]at this
   simpa [loadCells] using this
inductive fi where
 |t (i:Nat)
 |k (v:ak)
def arg (sl:List ak):fi->ak
 |.t i=>sl.getD i .any
 |.k v=>v
def a8:Operand->fi
 |.tmp t=>.t t
 |.const v=>.k (bz v)
 |.global g=>.k (.ptr (some (.g ⟨g,0,none⟩)))
 |.func f=>.k (.fn (.func f) [] [])
theorem aT {m:aF} {sl:List ak} {a:Act} (h:ar m sl a.tmps.toList) (x:Operand):vrel m (arg sl (a8 x)) (a.eval x):=by
 cases x with
 | tmp t =>
   simp only [a8,arg,Act.eval]
   have:=mz h t undef
   simpa using this
 |const v=>exact bZ m v
 |global g=>simp[a8,arg,Act.eval,vrel,dC]
 |func f=>simp[a8,arg,Act.eval,vrel,ar]
theorem gj {m:aF} {sl:List ak} {a:Act} (h:ar m sl a.tmps.toList):∀ xs:List Operand,ar m ((xs.map a8).map (arg sl)) (xs.map a.eval)
 |[]=>by simp[ar]
 |x::xs=>by simp only[ahC,ar];exact⟨_,_,rfl,aT h x,gj h xs⟩
abbrev bH:=World->List ak->List ao->(ak->List ao->Prop)->Prop
def hG (lh:List ao) (m:aF) (lh':List ao) (m':aF):Prop:=m.le m'/\∀ k,lh[k]? = some .hid->lh'[k]? = some .hid/\m' k=m k
theorem hG.refl (lh:List ao) (m:aF):hG lh m lh m:=⟨aF.le_refl m,fun _ h=>⟨h,rfl⟩⟩
theorem hG.trans {l1 l2 l3:List ao} {m1 m2 m3:aF} (h:hG l1 m1 l2 m2) (k:hG l2 m2 l3 m3):hG l1 m1 l3 m3 :=
 ⟨aF.le_trans h.1 k.1,fun j hj=>⟨(k.2 j (h.2 j hj).1).1,((k.2 j (h.2 j hj).1).2).trans (h.2 j hj).2⟩⟩
def ag9 (P : Program) (f : FuncId) : Prop := ∃ fn, P.funcs[f]? = some fn /\ (fn.name == "runtime.NumGoroutine") = false /\ fn.body.isNone = false
def bH.Sound (P:Program) (f:FuncId) (S:bH):Prop :=
 ∀ (B:cY) (m:aF) (lh:List ao) (w:World) (args:List ak) (vs:List Value) (K:ak->List ao->Prop),a7 B m lh w->ar m args vs->S B.w0 args lh K ->
  ag9 P f/\Calls P f vs.toArray w fun e w'=>∃ v r m' lh',e=.returned v/\vrel m' r v/\hG lh m lh' m'/\a7 B m' lh' w'/\K r lh'
def bN:List ak->List ak->Option Bool
 |[],[]=>some true
 |.int k a::xs,.int k' b::ys=>if k=k' then(bN xs ys).map (a==b&&·) else none
 |_,_=>none
def cU (P:Program) (t:TypeId):Prop:=P.eqGuardType P.depth t=false/\∀ (n:Nat),(P.info? t).map (·.size)=some n->∀ (xs ys:List ak) (us vs:Array Value) (m:aF) (b:Bool) (w:World),xs.length=n->ar m xs us.toList->ar m ys vs.toList->bN xs ys=some b ->
 (Op.equal t (.agg us) (.agg vs)).run P w=.ok b w
inductive kj where
 |mov (x:fi)
 |pick (c a b:fi)
 |new (ty:TypeId) (zero:List ak)
 |box (ty:TypeId) (x:fi)
 |agg (zero:List ak) (parts:List (Nat×Nat×fi))
 |bsl (ty:TypeId) (len:Nat) (zero:List ak) (parts:List (Nat×Nat×fi))
 |ld (a:fi)
 |lds (n:Nat) (a:fi)
 |st (n:Nat) (a x:fi)
 |nz (x:fi)
 |bin (op:BinOp) (x y:fi)
 |eqa (neg:Bool) (n:Nat) (x y:fi)
 |eqb (neg:Bool) (x y:fi)
 |un (op:UnOp) (x:fi)
 |conv (k:IntKind) (x:fi)
 |mkf (fn:Fn) (first caps:List fi)
 |fa (off:Nat) (x:fi)
 |fld (off:Nat) (n:Option Nat) (x:fi)
 |iaA (len esz:Nat) (x ix:fi)
 |iaS (esz:Nat) (x ix:fi)
 |ixA (len esz:Nat) (n:Option Nat) (x ix:fi)
 |ixS (x ix:fi)
 |len (x:fi)
 |lenT (x:fi)
 |lenA (n:Nat)
 |mm (isMax:Bool) (x:fi) (xs:List fi)
 |ext (x:fi) (i:Nat)
 |slS (esz:Nat) (x:fi) (lo hi mx:Option fi)
 |slA (n esz:Nat) (x:fi) (lo hi mx:Option fi)
 |slT (x:fi) (lo hi:Option fi)
 |app (ty:TypeId) (esz bytes:Nat) (zero:List ak) (s x:fi)
 |mks (ty:TypeId) (n:Nat) (cells:List ak)
 |call (f:FuncId) (args:List fi)
 |callv (x:fi) (args:List fi)
 |isn (neg:Bool) (x:fi)
 |clr (esz:Nat) (z:List ak) (x:fi)
end Go.Sx
namespace Go.Sx
def place (pl:Option Nat) (lh:List ao) (o:ao) (K:Nat->List ao->Prop):Prop :=
 match pl with
 |none=>K lh.length (lh++[o])
 |some p=>lh[p]? = some .dead/\K p (lh.set p o)
def parts (sl:List ak):List (Nat×Nat×fi)->List ak->(List ak->Prop)->Prop
 |[],z,K=>K z
 |(off,n,x)::ps,z,K=>(arg sl x).flat=true/\(arg sl x).cells.length=n/\off+n<=z.length/\parts sl ps (wr z off (arg sl x).cells) K
def rY (op:BinOp) (k:IntKind) (a b:Int) (K:ak->Prop):Prop :=
 match op with
 |.add=>K (.int k (k.wrap (a+b)))
 |.sub=>K (.int k (k.wrap (a-b)))
 |.mul=>K (.int k (k.wrap (a*b)))
 |.quo=>b≠0/\K (.int k (k.wrap (a.tdiv b)))
 |.rem=>b≠0/\K (.int k (a.tmod b))
 |.eql=>K (.bool (a==b))
 |.neq=>K (.bool (a != b))
 |.lss=>K (.bool (decide (a<b)))
 |.leq=>K (.bool (decide (a<=b)))
 |.gtr=>K (.bool (decide (b<a)))
 |.geq=>K (.bool (decide (b<=a)))
 |.and=>K (.int k (bits .and k a b))
 |.or=>K (.int k (bits .or k a b))
 |.xor=>K (.int k (bits .xor k a b))
 |.shl=>0<=b/\K (.int k (k.wrap (a*2 ^ min b.toNat k.bits)))
 |.shr=>0<=b/\K (.int k (a.fdiv (2 ^ min b.toNat k.bits)))
 |_=>False
def Bj (op:BinOp) (a b:ByteArray) (K:ak->Prop):Prop :=
 match op with
 |.eql=>K (.bool (a.toList==b.toList))
 |.neq=>K (.bool !(a.toList==b.toList))
 |.add=>((a.size+b.size:Nat):Int)<=IntKind.i64.max/\K (.str (a++b))
 |_=>False
def Rr (op:BinOp) (x y:ak) (K:ak->Prop):Prop :=
 match x,y with
 |.int k a,.int k' b=>k=k'/\rY op k a b K
 |.str a,.str b=>Bj op a b K
 |_,_=>False
def bnd (x:Option ak) (y d:Nat) (K:Nat->Prop):Prop :=
 match x with
 |none=>K d
 |some (.int _ i)=>0<=i/\i<=y/\K i.toNat
 |_=>False
def mm2 (isMax:Bool):ak->List ak->(ak->Prop)->Prop
 |x,[],K=>K x
 |.int k a,.int k' b::xs,K=>k=k'/\mm2 isMax (.int k (if isMax then max a b else min a b)) xs K
 |_,_,_=>False
def cellsOf (w0:World) (lh:List ao) (p:Option gR) (n:Nat):Option (List ak) :=
 match p with
 |none=>some []
 |some p=>lds w0 lh p n
def rR (w0:World) (lh:List ao) (pl:Option Nat) (ty:TypeId) (esz bytes:Nat) (zero:List ak) (K:ak->List ao->Prop):ak->ak->Prop
 | .slice p n c,.slice q k _ =>
   ∃ new, cellsOf w0 lh q (k*esz)=some new /\
    (n + k<=c->match p with
      | some (.l b off)=>∃ cs t,lh[b]? = some (.cells cs t)/\new.all ak.one=true/\off+n*esz+new.length<=cs.length /\
         K (.slice (some (.l b off)) (n+k) c) (lh.set b (.cells (wr cs (off+n*esz) new) t))
      |none=>K (.slice none (n+k) c) lh
      |some (.g a)=>new=[]/\K (.slice (some (.g a)) (n+k) c) lh) /\
    (c<n+k->∃ old,cellsOf w0 lh p (n*esz)=some old/\Builtin.nextslicecap (n+k) c*bytes<=2 ^ 48/\(((n+k:Nat):Int)<=IntKind.i64.max∨bytes≠0) /\
      ∀ c',n+k<=c'->place pl lh (.cells (old++new++(List.replicate (c'-(n+k)) zero).flatten) ty) fun b lh'=>K (.slice (some (.l b 0)) (n+k) c') lh')
 |_,_=>False
def cQ (w0:World) (S:FuncId->bH) (sl:List ak) (lh:List ao) (pl:Option Nat) (K:ak->List ao->Prop):kj->Prop
 |.mov x=>K (arg sl x) lh
 | .pick c a b=>match arg sl c with
   |.bool t=>(t=true->K (arg sl a) lh)/\(t=false->K (arg sl b) lh)
   |_=>False
 |.new ty z=>place pl lh (.cells z ty) fun p lh'=>K (.ptr (some (.l p 0))) lh'
 |.box ty x=>(arg sl x).flat=true/\place pl lh (.cells (arg sl x).cells ty) fun p lh'=>K (.ptr (some (.l p 0))) lh'
 |.agg z ps=>parts sl ps z fun cs=>K (.agg cs) lh
 |.bsl ty n z ps=>parts sl ps z fun cs=>place pl lh (.cells cs ty) fun p lh'=>K (.slice (some (.l p 0)) n n) lh'
 | .ld a=>match arg sl a with
   |.ptr (some p)=>∃ v,ld w0 lh p=some v/\K v lh
   |_=>False
 | .lds n a=>match arg sl a with
   |.ptr (some p)=>∃ cs,lds w0 lh p n=some cs/\K (.agg cs) lh
   |_=>False
 | .st n a x=>match arg sl a with
   | .ptr (some (.l k off))=>∃ cs ty,lh[k]? = some (.cells cs ty)/\(arg sl x).flat=true/\(arg sl x).cells.length=n/\off+n<=cs.length /\
      K (.tup []) (lh.set k (.cells (wr cs off (arg sl x).cells) ty))
   |_=>False
 | .nz x=>match arg sl x with
   |.ptr (some p)=>K (.ptr (some p)) lh
   |.fn (.func f) a b=>K (.fn (.func f) a b) lh
   |_=>False
 |.bin op x y=>Rr op (arg sl x) (arg sl y) fun v=>K v lh
 | .eqa neg n x y=>match arg sl x,arg sl y with
   |.agg xs,.agg ys=>xs.length=n/\∃ b,bN xs ys=some b/\K (.bool (if neg then !b else b)) lh
   |_,_=>False
 | .eqb neg x y=>match arg sl x,arg sl y with
   |.bool a,.bool b=>K (.bool (if neg then !(a==b) else a==b)) lh
   |_,_=>False
 | .un op x=>match op,arg sl x with
   |.neg,.int k n=>K (.int k (k.wrap (0-n))) lh
   |.not,.bool b=>K (.bool !b) lh
   |_,_=>False
 | .conv k x=>match arg sl x with
   |.int _ n=>K (.int k (k.wrap n)) lh
   |_=>False
 |.mkf f xs ys=>K (.fn f (xs.map (arg sl)) (ys.map (arg sl))) lh
 | .fa off x=>match arg sl x with
   |.ptr (some p)=>K (.ptr (some (p.add off))) lh
   |_=>False
 | .fld off n x=>match arg sl x with
   | .agg cs=>match n with
     |some n=>K (.agg ((cs.drop off).take n)) lh
     |none=>∃ v,cs[off]? = some v/\K v lh
   |_=>False
 | .iaA n esz x ix=>match arg sl x,arg sl ix with
   |.ptr (some p),.int _ i=>0<=i/\i<n/\K (.ptr (some (p.add (i.toNat*esz)))) lh
   |_,_=>False
 | .iaS esz x ix=>match arg sl x,arg sl ix with
   |.slice p n _,.int _ i=>0<=i/\i<n/\∃ q,p=some q/\K (.ptr (some (q.add (i.toNat*esz)))) lh
   |_,_=>False
 | .ixA n esz sz x ix=>match arg sl x,arg sl ix with
   | .agg cs,.int _ i=>0<=i/\i<n/\match sz with
     |some sz=>K (.agg ((cs.drop (i.toNat*esz)).take sz)) lh
     |none=>∃ v,cs[i.toNat*esz]? = some v/\K v lh
   |_,_=>False
 | .ixS x ix=>match arg sl x,arg sl ix with
   |.str s,.int _ i=>0<=i/\i<s.size/\K (.int .u8 ((s.data.toList.getD i.toNat 0).toNat:Int)) lh
   |_,_=>False
 | .len x=>match arg sl x with
   |.slice _ n _=>K (.int .i64 n) lh
   |_=>False
 | .lenT x=>match arg sl x with
   |.str s=>K (.int .i64 s.size) lh
   |_=>False
 |.lenA n=>K (.int .i64 n) lh
 |.mm b x xs=>mm2 b (arg sl x) (xs.map (arg sl)) fun v=>K v lh
 | .ext x i=>match arg sl x with
   |.tup vs=>∃ v,vs[i]? = some v/\K v lh
   |_=>False
 | .slS esz x lo hi mx=>match arg sl x with
   | .slice p n c=>bnd (mx.map (arg sl)) c c fun m=>bnd (hi.map (arg sl)) m n fun h=>bnd (lo.map (arg sl)) h 0 fun l =>
      K (.slice (if m=l then p else p.map (gR.add · (l*esz))) (h-l) (m-l)) lh
   |_=>False
 | .slA n esz x lo hi mx=>match arg sl x with
   | .ptr (some p)=>bnd (mx.map (arg sl)) n n fun m=>bnd (hi.map (arg sl)) m n fun h=>bnd (lo.map (arg sl)) h 0 fun l =>
      K (.slice (some (if m=l then p else p.add (l*esz))) (h-l) (m-l)) lh
   |_=>False
 | .slT x lo hi=>match arg sl x with
   |.str s=>bnd (hi.map (arg sl)) s.size s.size fun h=>bnd (lo.map (arg sl)) h 0 fun l=>K (.str (s.extract l h)) lh
   |_=>False
 |.app ty esz bytes zero s x=>rR w0 lh pl ty esz bytes zero K (arg sl s) (arg sl x)
 |.mks ty n cs=>place pl lh (.cells cs ty) fun p lh'=>K (.slice (some (.l p 0)) n n) lh'
 |.call f xs=>S f w0 (xs.map (arg sl)) lh K
 | .callv x xs=>match arg sl x with
   |.fn (.func f) a b=>S f w0 (a++xs.map (arg sl)++b) lh K
   |_=>False
 | .isn neg x=>match arg sl x with
   |.slice p _ _=>K (.bool (if neg then !p.isNone else p.isNone)) lh
   |_=>False
 | .clr esz z x=>match arg sl x with
   |.slice (some (.l k off)) n _=>∃ cs ty,lh[k]? = some (.cells cs ty)/\n≠0/\off+n*esz<=cs.length/\K (.tup []) (lh.set k (.cells (wr cs off (List.replicate n z).flatten) ty))
   |.slice _ n _=>n=0/\K (.tup []) lh
   |_=>False
def cJ (P:Program) (o:Oper) (a:Act) (w:World) (R:Value->World->Prop):Prop :=
 (∃ v w',(execOp a.eval o).run P w=.ok (.value v) w'/\R v w') ∨
 (∃ w',(execOp a.eval o).run P w=.ok .skip w'/\R undef w') ∨
 (∃ f args,(execOp a.eval o).run P w=.ok (.enter f args) w/\Calls P f args w fun e w'=>∃ v,e=.returned v/\R v w')
theorem a6 {P:Program} {o:Oper} {a:Act} {w w':World} {R:Value->World->Prop} {s:Sem Value} {v:Value}
 (he:execOp a.eval o=(do pure (.value (← s)))) (hs:s.run P w=.ok v w') (hR:R v w'):cJ P o a w R :=
 .inl ⟨v,w',by rw[he,ab hs];rfl,hR⟩
theorem EI {P:Program} {o:Oper} {a:Act} {w w':World} {R:Value->World->Prop} {s:Sem Unit}
 (he:execOp a.eval o=(do s;pure .skip)) (hs:s.run P w=.ok () w') (hR:R undef w'):cJ P o a w R :=
 .inr (.inl ⟨w',by rw[he,ab hs];rfl,hR⟩)
def Post (B:cY) (m:aF) (lh:List ao) (K:ak->List ao->Prop) (v:Value) (w:World):Prop :=
 ∃ r m' lh',vrel m' r v/\hG lh m lh' m'/\a7 B m' lh' w/\K r lh'
theorem Post.same {B:cY} {m:aF} {lh:List ao} {w:World} {K:ak->List ao->Prop} {v:Value} {r:ak} (h:a7 B m lh w) (hr:vrel m r v) (hK:K r lh):Post B m lh K v w :=
 ⟨r,m,lh,hr,hG.refl lh m,h,hK⟩
theorem Yb {lh:List ao} {m:aF} {k:Nat} {o o':ao} (hk:lh[k]? = some o) (ho:o≠.hid):hG lh m (lh.set k o') m :=
 ⟨aF.le_refl m,fun j hj=>⟨by rw[aaZ,aaT (fun e=>by subst e;rw[hk]at hj;cases hj;exact ho rfl)];exact hj,rfl⟩⟩
theorem Post.store {B:cY} {m:aF} {lh:List ao} {w:World} {K:ak->List ao->Prop} {v:Value} {r:ak} {k:Nat} {cs:List ak} {ty:TypeId} {o':ao} (hk:lh[k]? = some (.cells cs ty)) (h:a7 B m (lh.set k o') w)
 (hr:vrel m r v) (hK:K r (lh.set k o')):Post B m lh K v w :=
 ⟨r,m,_,hr,Yb hk (by simp),h,hK⟩
theorem gr {B:cY} {m:aF} {lh:List ao} {w:World} {pl:Option Nat} {cs:List ak} {ty:TypeId} {vs:Array Value} {K:Nat->List ao->Prop}
 (h:a7 B m lh w) (hv:ar m cs vs.toList) (hp:place pl lh (.cells cs ty) K) :
 ∃ p m' lh',m' p=some w.heap.size/\hG lh m lh' m'/\a7 B m' lh' { w with heap:=w.heap.push (.cells vs ty (0,0)) }/\K p lh':=by
 cases pl with
 | none =>
   obtain ⟨h1,h2⟩:=h.push (ty:=ty) hv
   refine ⟨_,_,_,by simp,⟨h2,fun k hk=>?_⟩,h1,hp⟩
   have hlt:k<lh.length:=(List.getElem?_eq_some_iff.1 hk).1
   exact ⟨by rw[aaQ hlt];exact hk,by simp[apN hlt]⟩
 | some p =>
   obtain ⟨hd,hK⟩:=hp
   obtain ⟨h1,h2⟩:=h.put (p:=p) (lh':=lh.set p (.cells cs ty)) (ty:=ty) (h.dead p hd) (by simp[(List.getElem?_eq_some_iff.1 hd).1]) (fun k hk=>by simp[hk.symm]) hv
   refine ⟨_,_,_,by simp,⟨h2,fun k hk=>?_⟩,h1,hK⟩
   have hne:k≠p:=fun e=>by subst e;rw[hd]at hk;cases hk
   exact ⟨by rw[aaZ,aaT hne.symm];exact hk,by simp[hne]⟩
end Go.Sx
namespace Go.Sx
def xF:TypeDesc->Bool
 |.struct _|.array _ _=>true
 |_=>false
def pD (P:Program) (t:TypeId):Option (Option Nat) :=
 match P.underlying t,P.info? t with
 |some d,some i=>some (if xF d then some i.size else none)
 |_,_=>none
def p8 (P:Program) (t:TypeId):Option (Array Value):=((P.info? t).bind (·.zero)).map (·.cells)
def dL (P:Program) (t:TypeId):Option Nat:=(P.info? t).map (·.size)
def tL (P:Program) (fs:Array Field):Option (List (Nat×Nat)):=fs.toList.mapM fun f=>(dL P f.type).map fun n=>(f.offset,n)
def oz (pls:Nat->Option (Nat×Nat)):List (Nat×Operand)->Option (List (Nat×Nat×fi))
 |[]=>some []
 | (i,x)::ps=>match pls i,oz pls ps with
   |some (off,n),some l=>some ((off,n,a8 x)::l)
   |_,_=>none
def ul:Operand->Bool
 |.const (.slice none 0 0)=>true
 |_=>false
def tS (P:Program) (b:Builtin) (ts:Array TypeId) (xs:List Operand):Option kj :=
 match b,ts.toList,xs with
 | .len,[t],[x]=>match P.underlying t with
   |some (.slice _)=>some (.len (a8 x))
   |some .string=>some (.lenT (a8 x))
   |some (.array n _)=>some (.lenA n)
   |_=>none
 |.max,_,x::y::xs=>some (.mm true (a8 x) ((y::xs).map a8))
 |.min,_,x::y::xs=>some (.mm false (a8 x) ((y::xs).map a8))
 | .append,[t,u],[s,x]=>match P.underlying t,P.underlying u with
   | some (.slice e),some (.slice _)=>match P.info? e with
     | some i=>match i.zero with
       |some z=>if z.cells.size=i.size&&z.cells.size != 0 then some (.app e i.size i.bytes (z.cells.toList.map bz) (a8 s) (a8 x)) else none
       |none=>none
     |none=>none
   |_,_=>none
 | .clear,[t],[x]=>match P.underlying t with
   | some (.slice e)=>match P.info? e with
     | some i=>match i.zero with
       |some z=>if z.cells.size=i.size&&z.cells.toList.all lP then some (.clr i.size (z.cells.toList.map bz) (a8 x)) else none
       |none=>none
     |none=>none
   |_=>none
 |_,_,_=>none
def JS (P:Program) (t:TypeId) (x y:Operand):Option kj :=
 match x,y,P.underlying t with
 | .const (.int _ n),.const (.int _ c),some (.slice e)=>match P.info? e with
   | some i=>match i.zero with
     | some z=>if n=c&&0<n&&n<=1000&&(i.bytes:Int)*n<=2 ^ 40&&i.size != 0 then
        some (.mks e n.toNat (((List.range (n.toNat*i.size)).map (z.cells[· % z.cells.size]!)).map bz)) else none
     |none=>none
   |none=>none
 |_,_,_=>none
def yaL:kj:=.ext (.k (.int .i64 0)) 0
def g9 (P:Program) (eqs:List TypeId) (o:Oper):Option kj :=
 match o.op with
 |.move x=>some (.mov (a8 x))
 |.assign x=>some (.mov (a8 x))
 |.pick c a b=>some (.pick (a8 c) (a8 a) (a8 b))
 |.alloc t=>(p8 P t).map fun z=>.new t (z.toList.map bz)
 |.box t x=>some (.box t (a8 x))
 | .build t ps=>match P.underlying t,p8 P t with
   | some (.struct fs),some z=>match tL P fs with
     |some pls=>(oz (pls[·]?) ps.toList).map (.agg (z.toList.map bz))
     |none=>none
   | some (.array _ e),some z=>match dL P e with
     |some n=>(oz (fun i=>some (i*n,n)) ps.toList).map (.agg (z.toList.map bz))
     |none=>none
   |_,_=>none
 | .buildSlice t len ps=>match P.underlying t with
   | some (.slice e)=>match dL P e,p8 P e with
     | some n,some z=>if len*n<=2 ^ 24&&(len*n != 0||z.size==0) then
        (oz (fun i=>some (i*n,n)) ps.toList).map (.bsl e len (((List.range (len*n)).map (z[· % z.size]!)).map bz)) else if len*n=0 then(oz (fun i=>some (i*n,n)) ps.toList).map (.bsl e len []) else none
     |_,_=>none
   |_=>none
 | .load t a=>match pD P t with
   |some (some n)=>some (.lds n (a8 a))
   |some none=>some (.ld (a8 a))
   |none=>none
 |.store t a x=>(dL P t).map fun n=>.st n (a8 a) (a8 x)
 |.nilCheck x=>some (.nz (a8 x))
 | .binOp op t x y _=>match op,P.underlying t with
   |.eql,some .bool=>some (.eqb false (a8 x) (a8 y))
   |.neq,some .bool=>some (.eqb true (a8 x) (a8 y))
   |.eql,some (.struct _)|.eql,some (.array _ _)=>if eqs.contains t then(dL P t).map fun n=>.eqa false n (a8 x) (a8 y) else none
   |.neq,some (.struct _)|.neq,some (.array _ _)=>if eqs.contains t then(dL P t).map fun n=>.eqa true n (a8 x) (a8 y) else none
   |op,some (.int _)|op,some .string=>some (.bin op (a8 x) (a8 y))
   |.eql,some (.slice _)=>if ul y then some (.isn false (a8 x)) else none
   |.neq,some (.slice _)=>if ul y then some (.isn true (a8 x)) else none
   |_,_=>none
 |.unOp op _ x=>some (.un op (a8 x))
 | .convert s d x=>match P.underlying s,P.underlying d with
   |some _,some (.int k)=>some (.conv k (a8 x))
   |_,_=>none
 |.makeFunc f xs ys=>some (.mkf f (xs.toList.map a8) (ys.toList.map a8))
 | .fieldAddr t x i=>match P.underlying t with
   | some (.struct fs)=>match fs[i]? with
     | some f=>match dL P f.type with
       |some n=>if n=0 then none else some (.fa f.offset (a8 x))
       |none=>none
     |none=>none
   |_=>none
 | .field t x i=>match P.underlying t with
   | some (.struct fs)=>match fs[i]? with
     |some f=>(pD P f.type).map fun n=>.fld f.offset n (a8 x)
     |none=>none
   |_=>none
 | .indexAddr t x ix=>match P.underlying t with
   |some (.array n e)=>(dL P e).map fun s=>.iaA n s (a8 x) (a8 ix)
   |some (.slice e)=>(dL P e).map fun s=>.iaS s (a8 x) (a8 ix)
   |_=>none
 | .index t x ix=>match P.underlying t with
   | some (.array n e)=>match dL P e,pD P e with
     |some s,some a=>some (.ixA n s a (a8 x) (a8 ix))
     |_,_=>none
   |some .string=>some (.ixS (a8 x) (a8 ix))
   |_=>none
 |.extract x i=>some (.ext (a8 x) i)
 | .slice t x lo hi mx=>if mx.isSome&&!hi.isSome then none else match P.underlying t with
   |some (.slice e)=>(dL P e).map fun s=>.slS s (a8 x) (lo.map a8) (hi.map a8) (mx.map a8)
   |some (.array n e)=>(dL P e).map fun s=>.slA n s (a8 x) (lo.map a8) (hi.map a8) (mx.map a8)
   |some .string=>if mx.isSome then none else some (.slT (a8 x) (lo.map a8) (hi.map a8))
   |_=>none
 |.makeSlice t x y=>JS P t x y
 |.makeInterface ..=>some yaL
 |.panic _=>some yaL
 | .call c=>match c.callee with
   | .value (.func f)=>match P.funcs[f]? with
     |some fn => if fn.name == "runtime.NumGoroutine" || fn.body.isNone then none else some (.call f (c.args.toList.map a8))
     |none=>none
   |.value x=>some (.callv (a8 x) (c.args.toList.map a8))
   |.builtin b=>tS P b c.argTypes c.args.toList
   |_=>none
 |_=>none
section
variable {P:Program} {B:cY} {S:FuncId->bH} {m:aF} {sl:List ak} {lh:List ao} {w:World} {a:Act} {o:Oper} {pl:Option Nat} {K:ak->List ao->Prop}
theorem aI {t:TypeId} {d:TypeDesc} (h:P.underlying t=some d) (w:World):(underlying t).run P w=.ok d w:=by
 unfold underlying;rw[ab (a:=P) (w':=w) rfl];simp only[h];rfl
theorem dG {t:TypeId} {i:TypeInfo} (h:P.info? t=some i) (w:World):(typeInfo t).run P w=.ok i w:=by
 unfold typeInfo;rw[ab (a:=P) (w':=w) rfl]
 have h':P.toTables.info? t=some i:=h
 simp only [h'];rfl
theorem run_sizeOf {t:TypeId} {n:Nat} (h:dL P t=some n) (w:World):(sizeOf t).run P w=.ok n w:=by
 simp only [dL,aaD]at h
 obtain ⟨i,hi,rfl⟩:=h
 unfold sizeOf;rw[ab (dG hi w)];rfl
theorem ij {t:TypeId} {z:Array Value} (h:p8 P t=some z) (w:World):∃ v,v.cells=z/\(zeroValue t).run P w=.ok v w:=by
 simp only [p8,aaD,Option.bind_eq_some_iff]at h
 obtain ⟨v,⟨i,hi,hv⟩,rfl⟩:=h
 refine ⟨v,rfl,?_⟩
 unfold zeroValue;rw[ab (dG hi w)];simp only[hv];rfl
theorem jL {t:TypeId} {d:TypeDesc} (h:P.underlying t=some d) (w:World):(isAgg t).run P w=.ok (xF d) w:=by
 unfold isAgg;rw[ab (aI h w)]
 cases d<;>rfl
theorem jO {t:TypeId} {n:Option Nat} (h:pD P t=some n):∃ d,P.underlying t=some d/\((xF d=true/\∃ k,n=some k/\dL P t=some k)∨(xF d=false/\n=none)):=by
 unfold pD at h
 split at h
 ·rename_i d i hd hi
  cases h
  refine ⟨d,hd,?_⟩
  cases e:xF d
  ·exact .inr ⟨rfl,rfl⟩
  ·exact .inl ⟨rfl,i.size,by simp,by simp[dL,hi]⟩
 ·cases h
theorem GQ {x:Operand} (ho:o.op=.move x∨o.op=.assign x) (hs:ar m sl a.tmps.toList) (h:a7 B m lh w) (hv:cQ B.w0 S sl lh pl K (.mov (a8 x))):cJ P o a w (Post B m lh K) :=
 .inl ⟨a.eval x,w,by rcases ho with ho|ho<;>(simp only[execOp,ho];rfl),Post.same h (aT hs x) hv⟩
theorem gY {m:aF} {b:Bool} {v:Value} (h:vrel m (.bool b) v):v=.bool b:=by simpa only[vrel] using h
theorem eQ {m:aF} {k:IntKind} {n:Int} {v:Value} (h:vrel m (.int k n) v):v=.int k n:=by simpa only[vrel] using h
theorem nQ {m:aF} {s:ByteArray} {v:Value} (h:vrel m (.str s) v):v=.string s:=by simpa only[vrel] using h
theorem Ms {c x y:Operand} (ho:o.op=.pick c x y) (hs:ar m sl a.tmps.toList) (h:a7 B m lh w) (hv:cQ B.w0 S sl lh pl K (.pick (a8 c) (a8 x) (a8 y))):cJ P o a w (Post B m lh K):=by
 have hc:=aT hs c
 simp only [cQ]at hv
 split at hv
 ·rename_i t ht
  rw [ht]at hc
  have hc:=gY hc
  refine .inl ⟨if t then a.eval x else a.eval y,w,?_,?_⟩
  ·simp only[execOp,ho,hc,asBool];rfl
  ·cases t
   ·exact Post.same h (aT hs y) (hv.2 rfl)
   ·exact Post.same h (aT hs x) (hv.1 rfl)
 ·exact hv.elim
theorem vc {t:TypeId} {v:Value} (w:World):(newVar t v).run P w=.ok ⟨w.heap.size,0,none⟩ { w with heap:=w.heap.push (.cells v.cells t (0,0)) }:=rfl
theorem jS {t:TypeId} {c:Array Value} (w:World):(newRow t c).run P w=.ok ⟨w.heap.size,0,none⟩ { w with heap:=w.heap.push (.cells c t (0,0)) }:=rfl
theorem Vs {t:TypeId} {z:Array Value} (ho:o.op=.alloc t) (hz:p8 P t=some z) (h:a7 B m lh w) (hv:cQ B.w0 S sl lh pl K (.new t (z.toList.map bz))):cJ P o a w (Post B m lh K):=by
 obtain ⟨v,hvz,hrun⟩:=ij hz w
 simp only [cQ]at hv
 obtain ⟨p,m',lh',h1,h2,h3,h4⟩:=gr h (vs:=z) (bT m z.toList) hv
 refine a6 (s:=Instr.alloc t true (.tuple #[])) (v:=.pointer (some ⟨w.heap.size,0,none⟩)) (by simp only[execOp,ho]) ?_ ⟨_,m',lh',?_,h2,h3,h4⟩
 ·unfold Instr.alloc;rw[ab hrun]
  show (do pure (Value.pointer (some (← newVar t v))):Sem Value).run P w=_
  rw [ab (vc w),hvz];rfl
 ·simp only[vrel];exact⟨_,rfl,_,h1,rfl⟩
theorem Wt {t:TypeId} {x:Operand} (ho:o.op=.box t x) (hs:ar m sl a.tmps.toList) (h:a7 B m lh w) (hv:cQ B.w0 S sl lh pl K (.box t (a8 x))):cJ P o a w (Post B m lh K):=by
 simp only [cQ]at hv
 obtain ⟨hf,hv⟩:=hv
 obtain ⟨hc,_⟩:=mg (aT hs x) hf
 obtain ⟨p,m',lh',h1,h2,h3,h4⟩:=gr h hc hv
 refine a6 (s:=Instr.box t (a.eval x)) (v:=.pointer (some ⟨w.heap.size,0,none⟩)) (by simp only[execOp,ho]) ?_ ⟨_,m',lh',?_,h2,h3,h4⟩
 ·unfold Instr.box;rw[ab (vc w)];rfl
 ·simp only[vrel];exact⟨_,rfl,_,h1,rfl⟩
theorem yM (off:Nat):∀ (l:List Value) (j:Nat) (cs:Array Value),((l.zipIdx j).foldl (fun(cs:Array Value) (p:Value×Nat)=>cs.setIfInBounds (off+p.2) p.1) cs).toList =
 (l.foldl (fun(acc:List Value×Nat) v=>(acc.1.set acc.2 v,acc.2+1)) (cs.toList,off+j)).1
 |[],_,_=>rfl
 | v::l,j,cs=>by
   simp only [List.zipIdx_cons,List.foldl_cons]
   rw [yM off l (j+1)]
   simp only [aqV]
   rfl
theorem C2 {m:aF}:∀ (xs:List ak) (us:List Value) (cs:List ak) (vs:List Value) (off:Nat),ar m xs us->ar m cs vs ->
 ar m (wr cs off xs) (us.foldl (fun(acc:List Value×Nat) v=>(acc.1.set acc.2 v,acc.2+1)) (vs,off)).1
 |[],us,cs,vs,off,hx,hc=>by simp only[ar]at hx;subst hx;exact hc
 | x::xs,us,cs,vs,off,hx,hc=>by
   simp only [ar]at hx;obtain⟨u,us,rfl,h1,h2⟩:=hx
   simp only [wr,List.foldl_cons]
   exact C2 xs us _ _ _ h2 (jH off hc h1)
theorem iO {pls:Nat->Option (Nat×Nat)} (hs:ar m sl a.tmps.toList):∀ (ps:List (Nat×Operand)) (qs:List (Nat×Nat×fi)) (z:List ak) (zs:Array Value) (K:List ak->Prop),
 oz pls ps=some qs->ar m z zs.toList->parts sl qs z K->∃ cs vs,Instr.fill pls zs (ps.map fun(i,x)=>(i,a.eval x))=some vs/\ar m cs vs.toList/\K cs
 | [],qs,z,zs,K,hc,hz,hp=>by
   simp only [oz,aaB]at hc;subst hc
   exact ⟨z,zs,by simp[Instr.fill],hz,hp⟩
 | (i,x)::ps,qs,z,zs,K,hc,hz,hp=>by
   simp only [oz]at hc
   split at hc
   ·rename_i off n l hpl hl
    cases hc
    simp only [parts]at hp
    obtain ⟨hf,hn,hle,hp⟩:=hp
    obtain ⟨h1,_⟩:=mg (aT hs x) hf
    have hl1:=cv h1
    have hl2:=cv hz
    simp only [anm]at hl1 hl2
    have hw:=C2 _ _ _ _ off h1 hz
    rw [show off=off+0 from rfl,← yM off _ 0 zs]at hw
    obtain ⟨cs,vs,h3,h4,h5⟩:=iO hs ps l (wr z off (arg sl (a8 x)).cells) _ K hl hw hp
    refine ⟨cs,vs,?_,h4,h5⟩
    simp only [ahC,Instr.fill,hpl]
    rw [aaT (by simp;omega)]
    rw [← h3]
    congr 1
    rw [← Array.foldl_toList,Array.toList_zipIdx]
   ·cases hc
theorem tK:∀ (fs:List Field) (pls:List (Nat×Nat)),(fs.mapM fun f=>(dL P f.type).map fun n=>(f.offset,n))=some pls->∀ w,
 (fs.mapM (m:=Sem) fun f=>do pure (f.offset,← sizeOf f.type)).run P w=.ok pls w
 |[],pls,h,w=>by simp at h;subst h;rfl
 | f::fs,pls,h,w=>by
   simp only [apJ,Option.pure_def,Option.bind_eq_bind,Option.bind_eq_some_iff,aaD,aaB]at h
   obtain ⟨a,⟨n,hn,rfl⟩,l,hl,rfl⟩:=h
   simp only [apJ]
   rw [ab (a:=(f.offset,n)) (w':=w) (by rw[ab (run_sizeOf hn w)];rfl)]
   rw [ab (tK fs l hl w)]
   rfl
end
end Go.Sx
namespace Go.Sx
section
variable {P:Program} {B:cY} {S:FuncId->bH} {m:aF} {sl:List ak} {lh:List ao} {w:World} {a:Act} {o:Oper} {pl:Option Nat} {K:ak->List ao->Prop}
theorem qI {cs:List ak} {v:Value} (h:vrel m (.agg cs) v):∃ vs,v=.agg vs/\ar m cs vs.toList:=by simpa only[vrel] using h
theorem iD {p:Option gR} {v:Value} (h:vrel m (.ptr p) v):∃ q,v=.pointer q/\dC m p q:=by simpa only[vrel] using h
theorem fy {p:Option gR} {n c:Nat} {v:Value} (h:vrel m (.slice p n c) v):∃ q,v=.slice q n c/\dC m p q:=by simpa only[vrel] using h
theorem yn {p:gR} {q:Option Addr} (h:dC m (some p) q):∃ a,q=some a/\dC m (some p) (some a):=by
 cases p with
 |l k off=>obtain⟨b,hb,rfl⟩:=h;exact⟨_,rfl,b,hb,rfl⟩
 |g a=>simp only[dC]at h;subst h;exact⟨a,rfl,rfl⟩
theorem qM {fs:Array Field} {pls:List (Nat×Nat)} (h:tL P fs=some pls) (w:World) :
 (fs.mapM (m:=Sem) fun f=>do pure (f.offset,← sizeOf f.type)).run P w=.ok pls.toArray w:=by
 have h1:=tK (P:=P) fs.toList pls h w
 have e:(fs.mapM (m:=Sem) fun f=>do pure (f.offset,← sizeOf f.type))=(do pure (← fs.toList.mapM (m:=Sem) fun f=>do pure (f.offset,← sizeOf f.type)).toArray):=by
  rw [Array.mapM_eq_mapM_toList];rfl
 rw [e,ab h1];rfl
theorem K3 {t:TypeId} {ps:Array (Nat×Operand)} {i:kj} {eqs:List TypeId} (ho:o.op=.build t ps) (hc:g9 P eqs o=some i) (hs:ar m sl a.tmps.toList) (h:a7 B m lh w)
 (hv:cQ B.w0 S sl lh pl K i):cJ P o a w (Post B m lh K):=by
 simp only [g9,ho]at hc
 split at hc
 ·rename_i fs z hu hz
  split at hc
  ·rename_i pls hpl
   simp only [aaD]at hc
   obtain ⟨qs,hq,rfl⟩:=hc
   simp only [cQ]at hv
   obtain ⟨cs,vs,h1,h2,h3⟩:=iO hs ps.toList qs _ z _ hq (bT m z.toList) hv
   obtain ⟨v,hvz,hrun⟩:=ij hz w
   refine a6 (s:=Instr.build t (ps.map fun(i,x)=>(i,a.eval x))) (v:=.agg vs) (by simp only[execOp,ho]) ?_ (Post.same h (by simp only[vrel];exact⟨_,rfl,h2⟩) h3)
   unfold Instr.build
   rw [ab hrun,ab (aI hu w)]
   dsimp only
   rw [ab (qM hpl w)]
   have e:(fun x:Nat=>pls.toArray[x]?)=(fun x:Nat=>pls[x]?):=by funext x;simp
   simp only [e,ajS,hvz,h1]
   rfl
  ·cases hc
 ·rename_i n e z hu hz
  split at hc
  ·rename_i sz hsz
   simp only [aaD]at hc
   obtain ⟨qs,hq,rfl⟩:=hc
   simp only [cQ]at hv
   obtain ⟨cs,vs,h1,h2,h3⟩:=iO hs ps.toList qs _ z _ hq (bT m z.toList) hv
   obtain ⟨v,hvz,hrun⟩:=ij hz w
   refine a6 (s:=Instr.build t (ps.map fun(i,x)=>(i,a.eval x))) (v:=.agg vs) (by simp only[execOp,ho]) ?_ (Post.same h (by simp only[vrel];exact⟨_,rfl,h2⟩) h3)
   unfold Instr.build
   rw [ab hrun,ab (aI hu w)]
   dsimp only
   rw [ab (run_sizeOf hsz w)]
   simp only [ajS,hvz,h1]
   rfl
  ·cases hc
 ·cases hc
theorem aeX {t:TypeId} {x:Operand} {i:kj} {eqs:List TypeId} (ho:o.op=.load t x) (hc:g9 P eqs o=some i) (hs:ar m sl a.tmps.toList) (h:a7 B m lh w)
 (hv:cQ B.w0 S sl lh pl K i):cJ P o a w (Post B m lh K):=by
 simp only [g9,ho]at hc
 have hx:=aT hs x
 split at hc
 ·rename_i n hn
  cases hc
  simp only [cQ]at hv
  split at hv
  ·rename_i p hp
   rw [hp]at hx
   obtain ⟨q,hq,hpq⟩:=iD hx
   obtain ⟨cs,hcs,hK⟩:=hv
   obtain ⟨ad,vs,rfl,hrun,hr⟩:=sr (P:=P) h hpq hcs
   obtain ⟨d,hd,hag⟩:=jO hn
   rcases hag with ⟨h1,k,hk,h2⟩|⟨_,hk⟩
   ·cases hk
    refine a6 (s:=Instr.loadAt t (a.eval x)) (v:=.agg vs) (by simp only[execOp,ho]) ?_ (Post.same h (by simp only[vrel];exact⟨_,rfl,hr⟩) hK)
    unfold Instr.loadAt
    rw [hq,ab (a:=ad) (w':=w) rfl]
    unfold loadVar
    rw [ab (jL hd w),h1]
    simp only [amW]
    rw [ab (run_sizeOf h2 w),ab hrun];rfl
   ·cases hk
  ·exact hv.elim
 ·rename_i hn
  cases hc
  simp only [cQ]at hv
  split at hv
  ·rename_i p hp
   rw [hp]at hx
   obtain ⟨q,hq,hpq⟩:=iD hx
   obtain ⟨r,hcs,hK⟩:=hv
   obtain ⟨ad,v,rfl,hrun,hr⟩:=BS h hpq hcs
   obtain ⟨d,hd,hag⟩:=jO hn
   rcases hag with ⟨_,k,hk,_⟩|⟨h1,_⟩
   ·cases hk
   ·refine a6 (s:=Instr.loadAt t (a.eval x)) (v:=v) (by simp only[execOp,ho]) ?_ (Post.same h hr hK)
    unfold Instr.loadAt
    rw [hq,ab (a:=ad) (w':=w) rfl]
    unfold loadVar
    rw [ab (jL hd w),h1]
    exact wC hrun
  ·exact hv.elim
 ·cases hc
theorem ahf {t:TypeId} {x y:Operand} {n:Nat} (ho:o.op=.store t x y) (hn:dL P t=some n) (hs:ar m sl a.tmps.toList) (h:a7 B m lh w)
 (hv:cQ B.w0 S sl lh pl K (.st n (a8 x) (a8 y))):cJ P o a w (Post B m lh K):=by
 have hx:=aT hs x
 simp only [cQ]at hv
 split at hv
 ·rename_i k off hp
  rw [hp]at hx
  obtain ⟨q,hq,hpq⟩:=iD hx
  obtain ⟨b,hb,rfl⟩:=hpq
  obtain ⟨cs,ty,hk,hf,hl,hle,hK⟩:=hv
  obtain ⟨hc1,hc2⟩:=mg (aT hs y) hf
  obtain ⟨w',hrun,hrel⟩:=a7.stores (P:=P) (off:=off) hb (arg sl (a8 y)).cells _ cs lh w 0 h hk (by omega) hc1 hc2
  refine EI (s:=Instr.storeAt t (a.eval x) (a.eval y)) (w':=w') (by simp only[execOp,ho]) ?_ (Post.store (r:=.tup []) hk hrel (by simp[vrel,ar,undef]) hK)
  unfold Instr.storeAt
  rw [hq,ab (a:=(⟨b,off,none⟩:Addr)) (w':=w) rfl]
  unfold storeVar
  rw [ab (run_sizeOf hn w)]
  have hl1:=cv hc1
  simp only [anm]at hl1
  rw [aaT (by omega)]
  exact hrun
 ·exact hv.elim
theorem agq {x:Operand} (ho:o.op=.nilCheck x) (hs:ar m sl a.tmps.toList) (h:a7 B m lh w) (hv:cQ B.w0 S sl lh pl K (.nz (a8 x))):cJ P o a w (Post B m lh K):=by
 have hx:=aT hs x
 simp only [cQ]at hv
 split at hv
 ·rename_i p hp
  rw [hp]at hx
  obtain ⟨q,hq,hpq⟩:=iD hx
  obtain ⟨ad,rfl,hpa⟩:=yn hpq
  exact .inl ⟨_,w,by simp only[execOp,ho,hq];rfl,Post.same h (by simp only[vrel];exact⟨_,rfl,hpa⟩) hv⟩
 ·rename_i f xs ys hp
  rw [hp]at hx
  have hx':=hx
  simp only [vrel]at hx'
  obtain ⟨us,vs,hq,_⟩:=hx'
  exact .inl ⟨_,w,by simp only[execOp,ho,hq];rfl,Post.same h (by rw[hq]at hx;exact hx) hv⟩
 ·exact hv.elim
theorem DD {op:BinOp} {t:TypeId} {x y:Operand} {k:IntKind} {n:Int} {v:Value} (w:World):(eqGuard op t x y (.int k n) v).run P w=.ok () w:=by
 cases op<;>rfl
theorem CH {op:BinOp} {t:TypeId} {x y:Operand} {s:ByteArray} {v:Value} (w:World):(eqGuard op t x y (.string s) v).run P w=.ok () w:=by
 cases op<;>rfl
theorem AO {op:BinOp} {t:TypeId} {x y:Operand} {b:Bool} {v:Value} (w:World):(eqGuard op t x y (.bool b) v).run P w=.ok () w:=by
 cases op<;>rfl
theorem vI {k:IntKind} {n:Int}:vrel m (.int k n) (.int k n):=by simp[vrel]
theorem vB {b:Bool}:vrel m (.bool b) (.bool b):=by simp[vrel]
theorem vS {s:ByteArray}:vrel m (.str s) (.string s):=by simp[vrel]
theorem Ga {op:BinOp} {k:IntKind} {x y:Int} {t:TypeId} {K':ak->Prop} (w:World) (h:rY op k x y K'):∃ r v,vrel m r v/\K' r/\(binOp op t (.int k x) (.int k y)).run P w=.ok v w:=by
 cases op<;>simp only[rY]at h<;>try exact h.elim
 case add=>exact⟨_,_,vI,h,by simp[binOp,Op.intArith]⟩
 case sub=>exact⟨_,_,vI,h,by simp[binOp,Op.intArith]⟩
 case mul=>exact⟨_,_,vI,h,by simp[binOp,Op.intArith]⟩
 case quo=>exact⟨_,_,vI,h.2,by simp[binOp,Op.intDiv,h.1]⟩
 case rem=>exact⟨_,_,vI,h.2,by simp[binOp,Op.intDiv,h.1]⟩
 case eql=>exact⟨_,_,vB,h,by simp[binOp,Op.intCmp]⟩
 case neq=>exact⟨_,_,vB,h,by simp[binOp,Op.intCmp]⟩
 case lss=>exact⟨_,_,vB,h,by simp[binOp,Op.intCmp]⟩
 case leq=>exact⟨_,_,vB,h,by simp[binOp,Op.intCmp]⟩
 case gtr=>exact⟨_,_,vB,h,by simp[binOp,Op.intCmp]⟩
 case geq=>exact⟨_,_,vB,h,by simp[binOp,Op.intCmp]⟩
 case and=>exact⟨_,_,vI,h,by simp only[binOp,ne_eq,apF,ajL,intBits_and];rfl⟩
 case or=>exact⟨_,_,vI,h,by simp only[binOp,ne_eq,apF,ajL,intBits_or];rfl⟩
 case xor=>exact⟨_,_,vI,h,by simp only[binOp,ne_eq,apF,ajL,intBits_xor];rfl⟩
 case shl=>exact⟨_,_,vI,h.2,by simp only[binOp,Op.shift];rw[aaT (Int.not_lt.2 h.1)];rfl⟩
 case shr=>exact⟨_,_,vI,h.2,by simp only[binOp,Op.shift];rw[aaT (Int.not_lt.2 h.1)];rfl⟩
theorem EW {op:BinOp} {x y:ByteArray} {t:TypeId} {K':ak->Prop} (w:World) (h:Bj op x y K'):∃ r v,vrel m r v/\K' r/\(binOp op t (.string x) (.string y)).run P w=.ok v w:=by
 cases op<;>simp only[Bj]at h<;>try exact h.elim
 case eql=>exact⟨_,_,vB,h,by simp only[binOp,Op.stringOp];rfl⟩
 case neq=>exact⟨_,_,vB,h,by simp only[binOp,Op.stringOp];rfl⟩
 case add=>exact⟨_,_,vS,h.2,by simp only[binOp,Op.stringOp];rw[aaT (Int.not_lt.2 h.1)];rfl⟩
theorem J0 {op:BinOp} {t u:TypeId} {x y:Operand} (ho:o.op=.binOp op t x y u) (hs:ar m sl a.tmps.toList) (h:a7 B m lh w) (hv:cQ B.w0 S sl lh pl K (.bin op (a8 x) (a8 y))):cJ P o a w (Post B m lh K):=by
 have hx:=aT hs x
 have hy:=aT hs y
 simp only [cQ,Rr]at hv
 split at hv
 ·rename_i k p k' q hp hq
  rw [hp]at hx;rw[hq]at hy
  have hx:=eQ hx
  have hy:=eQ hy
  obtain ⟨rfl,hv⟩:=hv
  obtain ⟨r,v,h2,h3,h1⟩:=Ga (P:=P) (t:=t) (m:=m) w hv
  refine a6 (s:=do eqGuard op t x y (a.eval x) (a.eval y);binOp op t (a.eval x) (a.eval y)) (v:=v) (by simp only[execOp,ho]) ?_ (Post.same h h2 h3)
  rw [hx,hy,ab (DD w)]
  exact h1
 ·rename_i p q hp hq
  rw [hp]at hx;rw[hq]at hy
  have hx:=nQ hx
  have hy:=nQ hy
  obtain ⟨r,v,h2,h3,h1⟩:=EW (P:=P) (t:=t) (m:=m) w hv
  refine a6 (s:=do eqGuard op t x y (a.eval x) (a.eval y);binOp op t (a.eval x) (a.eval y)) (v:=v) (by simp only[execOp,ho]) ?_ (Post.same h h2 h3)
  rw [hx,hy,ab (CH w)]
  exact h1
 ·exact hv.elim
end
end Go.Sx
namespace Go.Sx
section
variable {P:Program} {B:cY} {S:FuncId->bH} {m:aF} {sl:List ak} {lh:List ao} {w:World} {a:Act} {o:Oper} {pl:Option Nat} {K:ak->List ao->Prop}
theorem sH (n:Nat) (z:Array Value):((Array.range n).map (z[· % z.size]!)).toList=(List.range n).map (z[· % z.size]!):=by simp
theorem Vx {t:TypeId} {len:Nat} {ps:Array (Nat×Operand)} {i:kj} {eqs:List TypeId} (ho:o.op=.buildSlice t len ps) (hc:g9 P eqs o=some i) (hs:ar m sl a.tmps.toList) (h:a7 B m lh w)
 (hv:cQ B.w0 S sl lh pl K i):cJ P o a w (Post B m lh K):=by
 simp only [g9,ho]at hc
 split at hc
 ·rename_i e hu
  split at hc
  ·rename_i n z hn hz
   obtain ⟨v,hvz,hrun⟩:=ij hz w
   split at hc
   ·rename_i hcond
    simp only [aaw,abN,ajQ,bne_iff_ne,ajU]at hcond
    simp only [aaD]at hc
    obtain ⟨qs,hq,rfl⟩:=hc
    simp only [cQ]at hv
    obtain ⟨cs,vs,h1,h2,h3⟩:=iO hs ps.toList qs _ ((Array.range (len*n)).map (z[· % z.size]!)) _ hq (by rw[sH];exact bT m _) hv
    obtain ⟨p,m',lh',g1,g2,g3,g4⟩:=gr h h2 h3
    refine a6 (s:=Instr.buildSlice t len (ps.map fun(i,x)=>(i,a.eval x))) (v:=.slice (some ⟨w.heap.size,0,none⟩) len len) (by simp only[execOp,ho]) ?_
     ⟨_,m',lh',by simp only[vrel];exact⟨_,rfl,_,g1,rfl⟩,g2,g3,g4⟩
    unfold Instr.buildSlice
    rw [ab (aI hu w)]
    dsimp only
    rw [ab (run_sizeOf hn w),aaT (by omega)]
    by_cases hz0:len*n=0
    ·rw[aby hz0]
     have hzs:z.size=0:=hcond.2.resolve_left (fun c=>c hz0)
     have hze:z=#[]:=Array.eq_empty_of_size_eq_zero hzs
     subst hze
     simp only [pure_bind,ajS]
     simp only [hz0]at h1 ⊢
     rw [h1]
     dsimp only
     rw [ab (jS w)];rfl
    ·rw[aaT hz0]
     rw [ab hrun,pure_bind,hvz]
     simp only [ajS,h1]
     rw [ab (jS w)];rfl
   ·split at hc
    ·rename_i hz0
     simp only [aaD]at hc
     obtain ⟨qs,hq,rfl⟩:=hc
     simp only [cQ]at hv
     obtain ⟨cs,vs,h1,h2,h3⟩:=iO hs ps.toList qs [] #[] _ hq (by simp[ar]) hv
     obtain ⟨p,m',lh',g1,g2,g3,g4⟩:=gr h h2 h3
     refine a6 (s:=Instr.buildSlice t len (ps.map fun(i,x)=>(i,a.eval x))) (v:=.slice (some ⟨w.heap.size,0,none⟩) len len) (by simp only[execOp,ho]) ?_
      ⟨_,m',lh',by simp only[vrel];exact⟨_,rfl,_,g1,rfl⟩,g2,g3,g4⟩
     unfold Instr.buildSlice
     rw [ab (aI hu w)]
     dsimp only
     rw [ab (run_sizeOf hn w),aaT (by omega),aby hz0]
     simp only [pure_bind,ajS]
     have e:(Array.range (len*n)).map (fun x=>(#[]:Array Value)[x % (#[]:Array Value).size]!)=#[]:=by rw[hz0];simp[Array.range]
     rw [e,h1]
     dsimp only
     rw [ab (jS w)];rfl
    ·cases hc
  ·cases hc
 ·cases hc
theorem Ju {t u:TypeId} {x y:Operand} {op:BinOp} {neg:Bool} (hop:op=if neg then .neq else .eql) (ho:o.op=.binOp op t x y u) (hu:P.underlying t=some .bool) (hs:ar m sl a.tmps.toList) (h:a7 B m lh w)
 (hv:cQ B.w0 S sl lh pl K (.eqb neg (a8 x) (a8 y))):cJ P o a w (Post B m lh K):=by
 have hx:=aT hs x
 have hy:=aT hs y
 simp only [cQ]at hv
 split at hv
 ·rename_i p q hp hq
  rw [hp]at hx;rw[hq]at hy
  have hx:=gY hx
  have hy:=gY hy
  refine a6 (s:=do eqGuard op t x y (a.eval x) (a.eval y);binOp op t (a.eval x) (a.eval y)) (by simp only[execOp,ho]) ?_ (Post.same h vB hv)
  rw [hx,hy,ab (AO w)]
  have he:(Op.equal t (.bool p) (.bool q)).run P w=.ok (p==q) w:=by
   unfold Op.equal Op.maxDepth Op.equalIn
   rw [ab (aI hu w)];rfl
  subst hop
  cases neg
  ·simp only[adg,ajL,binOp];rw[ab he];rfl
  ·simp only[amW,binOp];rw[ab he];rfl
 ·exact hv.elim
theorem xO {op:BinOp} {t:TypeId} {x y:Operand} {q:Option Addr} {n c:Nat} {v:Value} (w:World):(eqGuard op t x y (.slice q n c) v).run P w=.ok () w:=by
 unfold eqGuard;cases op<;>rfl
theorem JG {t u e:TypeId} {x y:Operand} {op:BinOp} {neg:Bool} (hop:op=if neg then .neq else .eql) (ho:o.op=.binOp op t x y u) (hu:P.underlying t=some (.slice e)) (hy:ul y=true) (hs:ar m sl a.tmps.toList) (h:a7 B m lh w)
 (hv:cQ B.w0 S sl lh pl K (.isn neg (a8 x))):cJ P o a w (Post B m lh K):=by
 have hx:=aT hs x
 have hyv:a.eval y=.slice none 0 0:=by
  unfold ul at hy
  split at hy
  ·rfl
  ·cases hy
 simp only [cQ]at hv
 split at hv
 ·rename_i p n c hp
  rw [hp]at hx
  obtain ⟨q,hq,hpq⟩:=fy hx
  have hpq':p.isNone=q.isNone:=by
   cases p with
   |none=>simp only[dC]at hpq;subst hpq;rfl
   | some p =>
     cases p with
     |g a=>simp only[dC]at hpq;subst hpq;rfl
     |l k off=>obtain⟨b,_,rfl⟩:=hpq;rfl
  rw [hpq']at hv
  refine a6 (s:=do eqGuard op t x y (a.eval x) (a.eval y);binOp op t (a.eval x) (a.eval y)) (by simp only[execOp,ho]) ?_ (Post.same h vB hv)
  rw [hq,hyv,ab (xO w)]
  have he:(Op.equal t (.slice q n c) (.slice none 0 0)).run P w=.ok q.isNone w:=by
   unfold Op.equal Op.maxDepth Op.equalIn
   rw [ab (aI hu w)]
   cases q<;>rfl
  subst hop
  cases neg
  ·simp only[adg,ajL,binOp];rw[ab he];rfl
  ·simp only[amW,binOp];rw[ab he];rfl
 ·exact hv.elim
theorem uH {t u:TypeId} {x y:Operand} {op:BinOp} {neg:Bool} {n:Nat} (hn:dL P t=some n) (hop:op=if neg then .neq else .eql) (ho:o.op=.binOp op t x y u) (he:cU P t) (hs:ar m sl a.tmps.toList) (h:a7 B m lh w)
 (hv:cQ B.w0 S sl lh pl K (.eqa neg n (a8 x) (a8 y))):cJ P o a w (Post B m lh K):=by
 have hx:=aT hs x
 have hy:=aT hs y
 simp only [cQ]at hv
 split at hv
 ·rename_i xs ys hp hq
  rw [hp]at hx;rw[hq]at hy
  obtain ⟨us,hux,hus⟩:=qI hx
  obtain ⟨vs,hvy,hvs⟩:=qI hy
  obtain ⟨hlen,b,hb,hK⟩:=hv
  refine a6 (s:=do eqGuard op t x y (a.eval x) (a.eval y);binOp op t (a.eval x) (a.eval y)) (by simp only[execOp,ho]) ?_ (Post.same h vB hK)
  have hg:(eqGuard op t x y (.agg us) (.agg vs)).run P w=.ok () w:=by
   subst hop
   unfold eqGuard
   cases neg
   ·simp only[adg,ajL,apb]
    rw [ab (a:=P) (w':=w) rfl,ab (a:=P) (w':=w) rfl,he.1];rfl
   ·simp only[amW,apb,adg,ajL]
    rw [ab (a:=P) (w':=w) rfl,ab (a:=P) (w':=w) rfl,he.1];rfl
  rw [hux,hvy,ab hg]
  have he2:=he.2 n hn xs ys us vs m b w hlen hus hvs hb
  subst hop
  cases neg
  ·simp only[adg,ajL,binOp];rw[ab he2];rfl
  ·simp only[amW,binOp];rw[ab he2];rfl
 ·exact hv.elim
theorem ai2 {op:UnOp} {t:TypeId} {x:Operand} (ho:o.op=.unOp op t x) (hs:ar m sl a.tmps.toList) (h:a7 B m lh w) (hv:cQ B.w0 S sl lh pl K (.un op (a8 x))):cJ P o a w (Post B m lh K):=by
 have hx:=aT hs x
 simp only [cQ]at hv
 split at hv
 ·rename_i k n hp
  rw [hp]at hx
  exact a6 (s:=Op.unary .neg (a.eval x)) (by simp only[execOp,ho]) (by rw[eQ hx];rfl) (Post.same h vI hv)
 ·rename_i b hp
  rw [hp]at hx
  exact a6 (s:=Op.unary .not (a.eval x)) (by simp only[execOp,ho]) (by rw[gY hx];rfl) (Post.same h vB hv)
 ·exact hv.elim
theorem Re {s d:TypeId} {ds:TypeDesc} {k:IntKind} {x:Operand} (ho:o.op=.convert s d x) (hs1:P.underlying s=some ds) (hd:P.underlying d=some (.int k)) (hs:ar m sl a.tmps.toList) (h:a7 B m lh w)
 (hv:cQ B.w0 S sl lh pl K (.conv k (a8 x))):cJ P o a w (Post B m lh K):=by
 have hx:=aT hs x
 simp only [cQ]at hv
 split at hv
 ·rename_i k' n hp
  rw [hp]at hx
  refine a6 (s:=convert s d (a.eval x)) (by simp only[execOp,ho]) ?_ (Post.same h vI hv)
  rw [eQ hx]
  unfold convert
  rw [ab (aI hs1 w),ab (aI hd w)];rfl
 ·exact hv.elim
theorem YO {f:Fn} {xs ys:Array Operand} (ho:o.op=.makeFunc f xs ys) (hs:ar m sl a.tmps.toList) (h:a7 B m lh w) (hv:cQ B.w0 S sl lh pl K (.mkf f (xs.toList.map a8) (ys.toList.map a8))) :
 cJ P o a w (Post B m lh K):=by
 refine a6 (s:=Instr.makeFunc f (xs.map a.eval) (ys.map a.eval)) (by simp only[execOp,ho]) rfl (Post.same h ?_ hv)
 simp only [vrel]
 exact ⟨_,_,rfl,by rw[ajS];exact gj hs _,by rw[ajS];exact gj hs _⟩
theorem aeM {t:TypeId} {x:Operand} {i:Nat} {fs:Array Field} {f:Field} {n:Nat} (ho:o.op=.fieldAddr t x i) (hu:P.underlying t=some (.struct fs)) (hf:fs[i]? = some f) (hn:dL P f.type=some n) (hn0:n≠0)
 (hs:ar m sl a.tmps.toList) (h:a7 B m lh w) (hv:cQ B.w0 S sl lh pl K (.fa f.offset (a8 x))):cJ P o a w (Post B m lh K):=by
 have hx:=aT hs x
 simp only [cQ]at hv
 split at hv
 ·rename_i p hp
  rw [hp]at hx
  obtain ⟨q,hq,hpq⟩:=iD hx
  obtain ⟨ad,rfl,hpa⟩:=qZ hpq f.offset
  refine a6 (s:=Instr.fieldAt t (a.eval x) i) (v:=.pointer (some (ad.add f.offset))) (by simp only[execOp,ho]) ?_ (Post.same h (by simp only[vrel];exact⟨_,rfl,hpa⟩) hv)
  unfold Instr.fieldAt
  rw [ab (aI hu w)]
  dsimp only
  rw [hf]
  dsimp only
  rw [hq,ab (a:=ad) (w':=w) rfl]
  unfold fieldPlace
  rw [ab (a:=ad.add f.offset) (w':=w) (by rw[ab (run_sizeOf hn w),aaT hn0];rfl)]
  rfl
 ·exact hv.elim
theorem qB {t:TypeId} {n:Nat} (h:pD P t=some (some n)) (cs:Array Value) (off:Nat) (w:World):(part t cs off).run P w=.ok (.agg (cs.extract off (off+n))) w:=by
 obtain ⟨d,hd,hag⟩:=jO h
 rcases hag with ⟨h1,k,hk,h2⟩|⟨_,hk⟩
 ·cases hk
  unfold part
  rw [ab (jL hd w),h1]
  simp only [amW]
  rw [ab (run_sizeOf h2 w)];rfl
 ·cases hk
theorem qA {t:TypeId} (h:pD P t=some none) (cs:Array Value) (off:Nat) {v:Value} (hv:cs[off]? = some v) (w:World):(part t cs off).run P w=.ok v w:=by
 obtain ⟨d,hd,hag⟩:=jO h
 rcases hag with ⟨_,k,hk,_⟩|⟨h1,_⟩
 ·cases hk
 ·unfold part
  rw [ab (jL hd w),h1]
  simp only [adg,ajL,hv];rfl
theorem pE {cs:List ak} {vs:Array Value} (h:ar m cs vs.toList) (off n:Nat):ar m ((cs.drop off).take n) (vs.extract off (off+n)).toList:=by
 have:=eJ n (fx off h)
 rw [Array.toList_extract]
 simpa [List.extract_eq_take_drop] using this
theorem Zg {t:TypeId} {x:Operand} {i:Nat} {fs:Array Field} {f:Field} {n:Option Nat} (ho:o.op=.field t x i) (hu:P.underlying t=some (.struct fs)) (hf:fs[i]? = some f) (hn:pD P f.type=some n)
 (hs:ar m sl a.tmps.toList) (h:a7 B m lh w) (hv:cQ B.w0 S sl lh pl K (.fld f.offset n (a8 x))):cJ P o a w (Post B m lh K):=by
 have hx:=aT hs x
 simp only [cQ]at hv
 split at hv
 ·rename_i cs hp
  rw [hp]at hx
  obtain ⟨vs,hq,hvs⟩:=qI hx
  have hrun:∀ {v:Value},(part f.type vs f.offset).run P w=.ok v w->(Instr.field t (a.eval x) i).run P w=.ok v w:=fun hr=>by
   unfold Instr.field
   rw [ab (aI hu w)]
   dsimp only
   rw [hf]
   dsimp only
   rw [hq,ab (a:=vs) (w':=w) rfl]
   exact hr
  cases n with
  | some n =>
    exact a6 (s:=Instr.field t (a.eval x) i) (by simp only[execOp,ho]) (hrun (qB hn vs f.offset w)) (Post.same h (by simp only[vrel];exact⟨_,rfl,pE hvs _ _⟩) hv)
  | none =>
    obtain ⟨r,hr,hK⟩:=hv
    obtain ⟨v,hv,hrv⟩:=hU _ hvs hr
    exact a6 (s:=Instr.field t (a.eval x) i) (by simp only[execOp,ho]) (hrun (qA hn vs f.offset (by simpa using hv) w)) (Post.same h hrv hK)
 ·exact hv.elim
theorem WV {t:TypeId} {x ix:Operand} {n esz:Nat} {e:TypeId} (ho:o.op=.indexAddr t x ix) (hu:P.underlying t=some (.array n e)) (he:dL P e=some esz) (hs:ar m sl a.tmps.toList) (h:a7 B m lh w)
 (hv:cQ B.w0 S sl lh pl K (.iaA n esz (a8 x) (a8 ix))):cJ P o a w (Post B m lh K):=by
 have hx:=aT hs x
 have hy:=aT hs ix
 simp only [cQ]at hv
 split at hv
 ·rename_i p k i hp hi
  rw [hp]at hx;rw[hi]at hy
  obtain ⟨q,hq,hpq⟩:=iD hx
  obtain ⟨h1,h2,hK⟩:=hv
  obtain ⟨ad,rfl,hpa⟩:=qZ hpq (i.toNat*esz)
  refine a6 (s:=Instr.indexAt t (a.eval x) (a.eval ix)) (by simp only[execOp,ho]) ?_ (Post.same h (v:=.pointer (some (ad.add (i.toNat*esz)))) (by simp only[vrel];exact⟨_,rfl,hpa⟩) hK)
  unfold Instr.indexAt
  rw [eQ hy,ab (a:=(k,i)) (w':=w) rfl,ab (aI hu w),hq]
  dsimp only
  rw [ab (a:=ad) (w':=w) rfl,pure_bind]
  dsimp only
  rw [ab (aI hu w)]
  dsimp only
  rw [aby ⟨h1,h2⟩,ab (run_sizeOf he w)];rfl
 ·exact hv.elim
theorem Wz {t:TypeId} {x ix:Operand} {esz:Nat} {e:TypeId} (ho:o.op=.indexAddr t x ix) (hu:P.underlying t=some (.slice e)) (he:dL P e=some esz) (hs:ar m sl a.tmps.toList) (h:a7 B m lh w)
 (hv:cQ B.w0 S sl lh pl K (.iaS esz (a8 x) (a8 ix))):cJ P o a w (Post B m lh K):=by
 have hx:=aT hs x
 have hy:=aT hs ix
 simp only [cQ]at hv
 split at hv
 ·rename_i p n c k i hp hi
  rw [hp]at hx;rw[hi]at hy
  obtain ⟨q,hq,hpq⟩:=fy hx
  obtain ⟨h1,h2,p',rfl,hK⟩:=hv
  obtain ⟨ad,rfl,hpa⟩:=qZ hpq (i.toNat*esz)
  refine a6 (s:=Instr.indexAt t (a.eval x) (a.eval ix)) (by simp only[execOp,ho]) ?_ (Post.same h (v:=.pointer (some (ad.add (i.toNat*esz)))) (by simp only[vrel];exact⟨_,rfl,hpa⟩) hK)
  unfold Instr.indexAt
  rw [eQ hy,ab (a:=(k,i)) (w':=w) rfl,ab (aI hu w),hq]
  dsimp only
  rw [pure_bind]
  dsimp only
  rw [ab (aI hu w)]
  dsimp only
  rw [aby ⟨h1,h2⟩,ab (run_sizeOf he w)];rfl
 ·exact hv.elim
theorem XN {t:TypeId} {x ix:Operand} {n esz:Nat} {e:TypeId} {sz:Option Nat} (ho:o.op=.index t x ix) (hu:P.underlying t=some (.array n e)) (he:dL P e=some esz) (ha:pD P e=some sz)
 (hs:ar m sl a.tmps.toList) (h:a7 B m lh w) (hv:cQ B.w0 S sl lh pl K (.ixA n esz sz (a8 x) (a8 ix))):cJ P o a w (Post B m lh K):=by
 have hx:=aT hs x
 have hy:=aT hs ix
 simp only [cQ]at hv
 split at hv
 ·rename_i cs k i hp hi
  rw [hp]at hx;rw[hi]at hy
  obtain ⟨vs,hq,hvs⟩:=qI hx
  obtain ⟨h1,h2,hK⟩:=hv
  have hrun:∀ {v:Value},(part e vs (i.toNat*esz)).run P w=.ok v w->(Instr.index t (a.eval x) (a.eval ix)).run P w=.ok v w:=fun hr=>by
   unfold Instr.index
   rw [eQ hy,ab (a:=(k,i)) (w':=w) rfl,ab (aI hu w),hq]
   dsimp only
   rw [aby ⟨h1,h2⟩,ab (run_sizeOf he w)]
   exact hr
  cases sz with
  | some sz =>
    exact a6 (s:=Instr.index t (a.eval x) (a.eval ix)) (by simp only[execOp,ho]) (hrun (qB ha vs _ w)) (Post.same h (by simp only[vrel];exact⟨_,rfl,pE hvs _ _⟩) hK)
  | none =>
    obtain ⟨r,hr,hK⟩:=hK
    obtain ⟨v,hv,hrv⟩:=hU _ hvs hr
    exact a6 (s:=Instr.index t (a.eval x) (a.eval ix)) (by simp only[execOp,ho]) (hrun (qA ha vs _ (by simpa using hv) w)) (Post.same h hrv hK)
 ·exact hv.elim
theorem ZH {t:TypeId} {x ix:Operand} (ho:o.op=.index t x ix) (hu:P.underlying t=some .string) (hs:ar m sl a.tmps.toList) (h:a7 B m lh w)
 (hv:cQ B.w0 S sl lh pl K (.ixS (a8 x) (a8 ix))):cJ P o a w (Post B m lh K):=by
 have hx:=aT hs x
 have hy:=aT hs ix
 simp only [cQ]at hv
 split at hv
 ·rename_i s k i hp hi
  rw [hp]at hx;rw[hi]at hy
  obtain ⟨h1,h2,hK⟩:=hv
  refine a6 (s:=Instr.index t (a.eval x) (a.eval ix)) (by simp only[execOp,ho]) ?_ (Post.same h vI hK)
  unfold Instr.index
  rw [eQ hy,ab (a:=(k,i)) (w':=w) rfl,ab (aI hu w),nQ hx]
  dsimp only
  have hlt:i.toNat<s.size:=by omega
  rw [aby h1]
  have e:s[i.toNat]? = some (s.data.toList.getD i.toNat 0):=by
   have hlt':i.toNat<s.data.size:=hlt
   rw [show s[i.toNat]? = some s[i.toNat] from by simp[hlt]]
   congr 1
   rw [aqN,Array.getElem?_toList,apg hlt']
   rfl
  rw [e];rfl
 ·exact hv.elim
theorem Xk {x:Operand} {i:Nat} (ho:o.op=.extract x i) (hs:ar m sl a.tmps.toList) (h:a7 B m lh w) (hv:cQ B.w0 S sl lh pl K (.ext (a8 x) i)):cJ P o a w (Post B m lh K):=by
 have hx:=aT hs x
 simp only [cQ]at hv
 split at hv
 ·rename_i vs hp
  rw [hp]at hx
  simp only [vrel]at hx
  obtain ⟨us,hq,hus⟩:=hx
  obtain ⟨r,hr,hK⟩:=hv
  obtain ⟨v,hv,hrv⟩:=hU _ hus hr
  refine a6 (s:=Instr.extract (a.eval x) i) (by simp only[execOp,ho]) ?_ (Post.same h hrv hK)
  have hv':us[i]? = some v:=by simpa using hv
  rw [hq];simp only[Instr.extract,hv'];rfl
 ·exact hv.elim
end
end Go.Sx
namespace Go.Sx
section
variable {P:Program} {B:cY} {S:FuncId->bH} {m:aF} {sl:List ak} {lh:List ao} {w:World} {a:Act} {o:Oper} {pl:Option Nat} {K:ak->List ao->Prop}
theorem dJ {b:Builtin} {c:Call} {s:Sem Value} {v:Value} {w':World} {R:Value->World->Prop} (ho:o.op=.call c) (hc:c.callee=.builtin b)
 (hb:∀ cs,builtin b c.argTypes o.type cs (c.args.map a.eval)=(do pure (.value (← s)))) (hs:s.run P w=.ok v w') (hR:R v w'):cJ P o a w R:=by
 refine .inl ⟨v,w',?_,hR⟩
 simp only [execOp,ho]
 rw [ab (a:={ target:=.builtin b c.argTypes o.type (c.args.map fun|.const _=>true|_=>false),args:=c.args.map a.eval }) (w':=w) (by simp only[resolve,hc];rfl)]
 simp only [invoke,hb]
 rw [ab hs];rfl
theorem Zf {c:Call} {t e:TypeId} {x:Operand} (ho:o.op=.call c) (hc:c.callee=.builtin .len) (ht:c.argTypes.toList=[t]) (hx:c.args.toList=[x])
 (hu:P.underlying t=some (.slice e)) (hs:ar m sl a.tmps.toList) (h:a7 B m lh w) (hv:cQ B.w0 S sl lh pl K (.len (a8 x))):cJ P o a w (Post B m lh K):=by
 have e1:c.argTypes=#[t]:=by rw[← ajM,ht]
 have e2:c.args=#[x]:=by rw[← ajM,hx]
 have hxx:=aT hs x
 simp only [cQ]at hv
 split at hv
 ·rename_i p n c' hp
  rw [hp]at hxx
  obtain ⟨q,hq,_⟩:=fy hxx
  refine dJ (s:=Builtin.len_ #[t] o.type #[a.eval x]) ho hc (fun cs=>by rw[e1,e2];simp[builtin]) ?_ (Post.same h vI hv)
  unfold Builtin.len_
  rw [hq]
  show ((underlying t >>= _:Sem Value)).run P w=_
  rw [ab (aI hu w)];rfl
 ·exact hv.elim
theorem NM {c:Call} {t:TypeId} {x:Operand} (ho:o.op=.call c) (hc:c.callee=.builtin .len) (ht:c.argTypes.toList=[t]) (hx:c.args.toList=[x])
 (hu:P.underlying t=some .string) (hs:ar m sl a.tmps.toList) (h:a7 B m lh w) (hv:cQ B.w0 S sl lh pl K (.lenT (a8 x))):cJ P o a w (Post B m lh K):=by
 have e1:c.argTypes=#[t]:=by rw[← ajM,ht]
 have e2:c.args=#[x]:=by rw[← ajM,hx]
 have hxx:=aT hs x
 simp only [cQ]at hv
 split at hv
 ·rename_i s hp
  rw [hp]at hxx
  refine dJ (s:=Builtin.len_ #[t] o.type #[a.eval x]) ho hc (fun cs=>by rw[e1,e2];simp[builtin]) ?_ (Post.same h vI hv)
  unfold Builtin.len_
  rw [nQ hxx]
  show ((underlying t >>= _:Sem Value)).run P w=_
  rw [ab (aI hu w)];rfl
 ·exact hv.elim
theorem MG {c:Call} {t e:TypeId} {x:Operand} {n:Nat} (ho:o.op=.call c) (hc:c.callee=.builtin .len) (ht:c.argTypes.toList=[t]) (hx:c.args.toList=[x])
 (hu:P.underlying t=some (.array n e)) (h:a7 B m lh w) (hv:cQ B.w0 S sl lh pl K (.lenA n)):cJ P o a w (Post B m lh K):=by
 have e1:c.argTypes=#[t]:=by rw[← ajM,ht]
 have e2:c.args=#[x]:=by rw[← ajM,hx]
 simp only [cQ]at hv
 refine dJ (s:=Builtin.len_ #[t] o.type #[a.eval x]) ho hc (fun cs=>by rw[e1,e2];simp[builtin]) ?_ (Post.same h vI hv)
 unfold Builtin.len_
 show ((underlying t >>= _:Sem Value)).run P w=_
 rw [ab (aI hu w)];rfl
theorem Tj {k:IntKind} {x y:Int} (w:World):(Builtin.max2 (.int k x) (.int k y)).run P w=.ok (.int k (max x y)) w:=by
 have:(if y > x then y else x)=max x y:=by
  split<;>omega
 simp only [Builtin.max2,this];rfl
theorem OM {k:IntKind} {x y:Int} (w:World):(Builtin.min2 (.int k x) (.int k y)).run P w=.ok (.int k (min x y)) w:=by
 have:(if y<x then y else x)=min x y:=by
  split<;>omega
 simp only [Builtin.min2,this];rfl
theorem P5 {K':ak->Prop}:∀ (b:Bool) (ys:List ak) (vs:List Value) (x:ak) (u:Value) (w:World),ar m ys vs->vrel m x u->mm2 b x ys K' ->
 ∃ r v,vrel m r v/\K' r/\(vs.foldlM (if b then Builtin.max2 else Builtin.min2) u:Sem Value).run P w=.ok v w
 | b,[],vs,x,u,w,hv,hx,hm=>by
   simp only [ar]at hv;subst hv
   exact ⟨x,u,hx,by cases x<;>exact hm,rfl⟩
 | b,y::ys,vs,x,u,w,hv,hx,hm=>by
   simp only [ar]at hv;obtain⟨v,vs,rfl,hy,hv⟩:=hv
   unfold mm2 at hm
   split at hm
   ·rename_i e;cases e
   ·rename_i k p k' q ys' e
    cases e
    obtain ⟨rfl,hm⟩:=hm
    rw [eQ hx,eQ hy]
    obtain ⟨r,z,h1,h2,h3⟩:=P5 b ys vs (.int k (if b then max p q else min p q)) (.int k (if b then max p q else min p q)) w hv vI hm
    refine ⟨r,z,h1,h2,?_⟩
    rw [List.foldlM_cons]
    cases b
    ·simp only[adg,ajL]at h3 ⊢;rw[ab (OM w)];exact h3
    ·simp only[amW]at h3 ⊢;rw[ab (Tj w)];exact h3
   ·exact hm.elim
theorem PQ {c:Call} {b:Bool} {x y:Operand} {xs:List Operand} (ho:o.op=.call c) (hc:c.callee=.builtin (if b then .max else .min)) (hx:c.args.toList=x::y::xs)
 (hs:ar m sl a.tmps.toList) (h:a7 B m lh w) (hv:cQ B.w0 S sl lh pl K (.mm b (a8 x) ((y::xs).map a8))):cJ P o a w (Post B m lh K):=by
 simp only [cQ]at hv
 obtain ⟨r,v,h1,h2,h3⟩:=P5 (P:=P) b _ _ _ _ w (gj hs (y::xs)) (aT hs x) hv
 have e2:(c.args.map a.eval).toList=a.eval x::(y::xs).map a.eval:=by rw[ajS,hx];rfl
 cases b
 ·refine dJ (s:=Builtin.min_ c.argTypes o.type (c.args.map a.eval)) ho hc (fun cs=>rfl) ?_ (Post.same h h1 h2)
  unfold Builtin.min_;rw[e2];exact h3
 ·refine dJ (s:=Builtin.max_ c.argTypes o.type (c.args.map a.eval)) ho hc (fun cs=>rfl) ?_ (Post.same h h1 h2)
  unfold Builtin.max_;rw[e2];exact h3
theorem BA {x:Option ak} {u:Option Value} {y d:Nat} {K':Nat->Prop} (w:World) (hx:match x,u with|none,none=>True|some x,some u=>vrel m x u|_,_=>False) (h:bnd x y d K') :
 ∃ n,K' n/\(u=none->n=d)/\∀ v code,u=some v->(Instr.sliceBound v y code).run P w=.ok n w:=by
 cases x with
 | none =>
   cases u with
   |none=>exact⟨d,h,fun _=>rfl,fun v _ hv=>by cases hv⟩
   |some u=>exact hx.elim
 | some x =>
   cases u with
   |none=>exact hx.elim
   | some u =>
     simp only [bnd]at h
     split at h
     ·rename_i e;cases e
     ·rename_i k i e
      cases e
      obtain ⟨h1,h2,h3⟩:=h
      refine ⟨i.toNat,h3,fun e=>(by cases e),fun v code hv=>?_⟩
      cases hv
      rw [eQ hx]
      unfold Instr.sliceBound
      rw [ab (a:=(k,i)) (w':=w) rfl]
      dsimp only
      rw [aby ⟨h1,h2⟩];rfl
     ·exact h.elim
theorem AK (hs:ar m sl a.tmps.toList) (x:Option Operand):match (x.map a8).map (arg sl),x.map a.eval with|none,none=>True|some x,some u=>vrel m x u|_,_=>False:=by
 cases x with
 |none=>trivial
 |some x=>exact aT hs x
theorem p7 {b:Bool} {n c:Nat} {lo hi mx:Option Operand} {K':Nat->Nat->Nat->Prop} (hmx:¬ (mx.isSome=true/\hi.isSome=false)) (hs:ar m sl a.tmps.toList) (w:World)
 (h:bnd ((mx.map a8).map (arg sl)) c c fun mm=>bnd ((hi.map a8).map (arg sl)) mm n fun hh=>bnd ((lo.map a8).map (arg sl)) hh 0 fun l=>K' l hh mm) :
 ∃ l hh mm,K' l hh mm/\(Instr.sliceBounds b n c (lo.map a.eval) (hi.map a.eval) (mx.map a.eval)).run P w=.ok (l,hh,mm) w:=by
 obtain ⟨mm,h,m1,m2⟩:=BA (P:=P) w (AK hs mx) h
 obtain ⟨hh,h,h1,h2⟩:=BA (P:=P) w (AK hs hi) h
 obtain ⟨l,h,l1,l2⟩:=BA (P:=P) w (AK hs lo) h
 refine ⟨l,hh,mm,h,?_⟩
 unfold Instr.sliceBounds
 cases mx with
 | none =>
   obtain rfl:=m1 rfl
   cases hi with
   | none =>
     obtain rfl:=h1 rfl
     cases lo with
     |none=>obtain rfl:=l1 rfl;simp only[apn,pure_bind];rfl
     |some x=>simp only[apn,abW,pure_bind];rw[ab (l2 _ _ rfl)];rfl
   | some y =>
     cases lo with
     |none=>obtain rfl:=l1 rfl;simp only[apn,abW,pure_bind];rw[ab (h2 _ _ rfl)];rfl
     |some x=>simp only[apn,abW,pure_bind];rw[ab (h2 _ _ rfl),ab (l2 _ _ rfl)];rfl
 | some z =>
   cases hi with
   |none=>exact(hmx ⟨rfl,rfl⟩).elim
   | some y =>
     cases lo with
     |none=>obtain rfl:=l1 rfl;simp only[apn,abW,pure_bind];rw[ab (m2 _ _ rfl),ab (h2 _ _ rfl)];rfl
     |some x=>simp only[abW];rw[ab (m2 _ _ rfl),ab (h2 _ _ rfl),ab (l2 _ _ rfl)];rfl
theorem pu {p:Option gR} {q:Option Addr} (h:dC m p q) (c:Prop) [Decidable c] (n:Nat):dC m (if c then p else p.map (gR.add · n)) (if c then q else q.map (·.add n)):=by
 split
 ·exact h
 ·cases p with
  |none=>simp only[dC]at h;subst h;rfl
  |some p=>obtain⟨ad,rfl,h2⟩:=qZ h n;exact h2
theorem V1 {t e:TypeId} {x:Operand} {lo hi mx:Option Operand} {esz:Nat} (ho:o.op=.slice t x lo hi mx) (hmx:¬ (mx.isSome=true/\hi.isSome=false)) (hu:P.underlying t=some (.slice e)) (he:dL P e=some esz)
 (hs:ar m sl a.tmps.toList) (h:a7 B m lh w) (hv:cQ B.w0 S sl lh pl K (.slS esz (a8 x) (lo.map a8) (hi.map a8) (mx.map a8))):cJ P o a w (Post B m lh K):=by
 have hx:=aT hs x
 simp only [cQ]at hv
 split at hv
 ·rename_i p n c hp
  rw [hp]at hx
  obtain ⟨q,hq,hpq⟩:=fy hx
  obtain ⟨l,hh,mm,hK,hrun⟩:=p7 (P:=P) (b:=true) hmx hs w hv
  refine a6 (s:=Instr.sliceAt t (a.eval x) (lo.map a.eval) (hi.map a.eval) (mx.map a.eval)) (v:=.slice (if mm=l then q else q.map (·.add (l*esz))) (hh-l) (mm-l)) (by simp only[execOp,ho]) ?_ (Post.same h ?_ hK)
  ·unfold Instr.sliceAt
   rw [ab (aI hu w)]
   dsimp only
   unfold Instr.slice
   rw [ab (aI hu w),hq]
   dsimp only
   rw [ab hrun]
   dsimp only
   rw [ab (run_sizeOf he w)];rfl
  ·simp only[vrel];exact⟨_,rfl,pu hpq _ _⟩
 ·exact hv.elim
theorem WS {t e:TypeId} {x:Operand} {lo hi mx:Option Operand} {n esz:Nat} (ho:o.op=.slice t x lo hi mx) (hmx:¬ (mx.isSome=true/\hi.isSome=false)) (hu:P.underlying t=some (.array n e)) (he:dL P e=some esz)
 (hs:ar m sl a.tmps.toList) (h:a7 B m lh w) (hv:cQ B.w0 S sl lh pl K (.slA n esz (a8 x) (lo.map a8) (hi.map a8) (mx.map a8))):cJ P o a w (Post B m lh K):=by
 have hx:=aT hs x
 simp only [cQ]at hv
 split at hv
 ·rename_i p hp
  rw [hp]at hx
  obtain ⟨q,hq,hpq⟩:=iD hx
  obtain ⟨l,hh,mm,hK,hrun⟩:=p7 (P:=P) (b:=false) hmx hs w hv
  obtain ⟨ad,rfl,hpa⟩:=yn hpq
  refine a6 (s:=Instr.sliceAt t (a.eval x) (lo.map a.eval) (hi.map a.eval) (mx.map a.eval)) (v:=.slice (some (if mm=l then ad else ad.add (l*esz))) (hh-l) (mm-l)) (by simp only[execOp,ho]) ?_ (Post.same h ?_ hK)
  ·unfold Instr.sliceAt
   rw [ab (aI hu w)]
   dsimp only
   rw [hq,ab (a:=ad) (w':=w) rfl,ab hrun]
   dsimp only
   rw [ab (run_sizeOf he w)];rfl
  ·simp only[vrel]
   refine ⟨_,rfl,?_⟩
   have:=pu hpa (mm=l) (l*esz)
   by_cases e:mm=l
   ·simpa[e] using this
   ·simpa[e] using this
 ·exact hv.elim
theorem Yq {t:TypeId} {x:Operand} {lo hi:Option Operand} (ho:o.op=.slice t x lo hi none) (hu:P.underlying t=some .string)
 (hs:ar m sl a.tmps.toList) (h:a7 B m lh w) (hv:cQ B.w0 S sl lh pl K (.slT (a8 x) (lo.map a8) (hi.map a8))):cJ P o a w (Post B m lh K):=by
 have hx:=aT hs x
 simp only [cQ]at hv
 split at hv
 ·rename_i s hp
  rw [hp]at hx
  obtain ⟨l,hh,mm,hK,hrun⟩:=p7 (P:=P) (b:=false) (n:=s.size) (c:=s.size) (mx:=none) (K':=fun l h _=>K (.str (s.extract l h)) lh) (by simp) hs w hv
  refine a6 (s:=Instr.sliceAt t (a.eval x) (lo.map a.eval) (hi.map a.eval) none) (v:=.string (s.extract l hh)) (by simp only[execOp,ho];rfl) ?_ (Post.same h vS hK)
  unfold Instr.sliceAt
  rw [ab (aI hu w)]
  dsimp only
  unfold Instr.slice
  rw [ab (aI hu w),nQ hx]
  simp only [Option.isSome_none,adg,ajL]
  rw [apn]at hrun
  rw [ab hrun];rfl
 ·exact hv.elim
end
end Go.Sx
namespace Go.Sx
section
variable {P:Program} {B:cY} {S:FuncId->bH} {m:aF} {sl:List ak} {lh:List ao} {w:World} {a:Act} {o:Oper} {pl:Option Nat} {K:ak->List ao->Prop}
theorem vR (z:List Value):∀ n,(List.range (n*z.length)).map (fun i=>z[i % z.length]!)=(List.replicate n z).flatten
 |0=>by simp
 | n + 1=>by
   rw [ajX,apH,← vR z n,adm,ari,List.range_add,List.map_append]
   congr 1
   ·apply List.ext_getElem
    ·simp
    ·intro i h1 h2
     simp at h1
     simp [Nat.mod_eq_of_lt h1,h1]
   ·rw[List.map_map]
    apply anf
    intro i _
    simp
theorem lW (z:Array Value) (n:Nat):(Builtin.zeroCells z n).toList=(List.replicate n z.toList).flatten:=by
 unfold Builtin.zeroCells
 rw [ajS]
 have:(Array.range (n*z.size)).toList=List.range (n*z.size):=by simp
 rw [this,← vR,anm]
 apply anf
 intro x _
 rw [Array.getElem!_eq_getD,List.getElem!_eq_getElem?_getD,Array.getElem?_toList,aqM]
theorem eB {z:List ak} {vs:List Value} (h:ar m z vs):∀ n,ar m (List.replicate n z).flatten (List.replicate n vs).flatten
 |0=>by simp[ar]
 |n+1=>by simp only[ajX,apH];exact dF h (eB h n)
theorem lr (h:a7 B m lh w) {p:Option gR} {q:Option Addr} (hq:dC m p q) {size n k c:Nat} {xs:List ak} (hx:cellsOf B.w0 lh p (n*size)=some xs) :
 ∃ vs,(Builtin.firstCells size n (.slice q k c)).run P w=.ok vs w/\ar m xs vs.toList:=by
 cases p with
 | none =>
   simp only [dC]at hq;subst hq
   simp only [cellsOf,aaB]at hx;subst hx
   exact ⟨#[],rfl,by simp[ar]⟩
 | some p =>
   obtain ⟨ad,vs,rfl,hrun,hr⟩:=sr (P:=P) h hq hx
   exact ⟨vs,hrun,hr⟩
theorem kU {t u e e' ty:TypeId} {n c k c2 sz:Nat} {ps qs:Option Addr} {nv:Array Value} {w':World} (hu:P.underlying t=some (.slice e)) (hu':P.underlying u=some (.slice e')) (hsz:dL P e=some sz)
 (hcap:n+k<=c) (hn:(Builtin.firstCells sz k (.slice qs k c2)).run P w=.ok nv w)
 (hst:(match ps with|some ad=>storeCells (ad.add (n*sz)) nv.toList|none=>pure ()).run P w=.ok () w') :
 (Builtin.append_ #[t,u] ty #[.slice ps n c,.slice qs k c2]).run P w=.ok (.slice ps (n+k) c) w':=by
 simp only [Builtin.append_,aox,acM,acx]
 rw [ab (aI hu w)]
 dsimp only
 rw [ab (run_sizeOf hsz w),ab (aI hu' w),pure_bind]
 simp only [adg,ajL,Builtin.lenOf,pure_bind,ape,amW]
 rw [aby hcap,ab hn]
 cases ps with
 | none =>
   have hst':Result.ok () w=Result.ok () w':=hst
   cases hst'
   rfl
 | some ad =>
   simp only at hst ⊢
   rw [ab hst];rfl
theorem ue {t u e e' ty:TypeId} {n c k c2:Nat} {ps qs:Option Addr} {ov nv:Array Value} {i:TypeInfo} {z:Value} (hu:P.underlying t=some (.slice e)) (hu':P.underlying u=some (.slice e')) (hi:P.info? e=some i)
 (hz:i.zero=some z) (hcap:¬ n+k<=c) (hbytes:Builtin.nextslicecap (n+k) c*i.bytes<=2 ^ 48) (hbig:((n+k:Nat):Int)<=IntKind.i64.max∨i.bytes≠0)
 (hov:(Builtin.firstCells i.size n (.slice ps n c)).run P { w with drawn:=w.drawn+1 }=.ok ov { w with drawn:=w.drawn+1 })
 (hn:(Builtin.firstCells i.size k (.slice qs k c2)).run P { w with drawn:=w.drawn+1 }=.ok nv { w with drawn:=w.drawn+1 }) :
 ∃ nc,n+k<=nc/\(Builtin.append_ #[t,u] ty #[.slice ps n c,.slice qs k c2]).run P w =
  .ok (.slice (some ⟨w.heap.size,0,none⟩) (n+k) nc) { w with drawn:=w.drawn+1,heap:=w.heap.push (.cells (ov++nv++Builtin.zeroCells z.cells (nc-(n+k))) e (0,0)) }:=by
 have hsz:dL P e=some i.size:=by simp[dL,hi]
 refine ⟨(Question.appendCap (n+k) c e).cut (w.tape w.drawn (.appendCap (n+k) c e)),by simp only[Question.cut];omega,?_⟩
 generalize hnc:(Question.appendCap (n+k) c e).cut (w.tape w.drawn (.appendCap (n+k) c e))=nc
 have hch:(choose (.appendCap (n+k) c e)).run P w=.ok nc { w with drawn:=w.drawn+1 }:=by rw[← hnc];rfl
 have hask:(askRoom (nc*i.bytes)).run P { w with drawn:=w.drawn+1 }=.ok () { w with drawn:=w.drawn+1 }:=by
  unfold askRoom;split<;>rfl
 have hzv:(zeroValue e).run P { w with drawn:=w.drawn+1 }=.ok z { w with drawn:=w.drawn+1 }:=by
  unfold zeroValue;rw[ab (dG hi _)];simp only[hz];rfl
 simp only [Builtin.append_,aox,acM,acx]
 rw [ab (aI hu w)]
 dsimp only
 rw [ab (run_sizeOf hsz w),ab (aI hu' w),pure_bind]
 simp only [adg,ajL,Builtin.lenOf,pure_bind,ape,amW,false_or]
 rw [aaT hcap,ab (dG hi w),aaT (by rintro⟨h1,h2⟩;rcases hbig with h|h<;>omega),ab (dG hi w),aaT (by omega)]
 rw [ab hch,ab (dG hi _),ab hask,ab hov,ab hn,ab hzv,ab (jS _)]
 rfl
theorem VX {c:Call} {t u e e':TypeId} {s x:Operand} {i:TypeInfo} {z:Value} (ho:o.op=.call c) (hc:c.callee=.builtin .append) (ht:c.argTypes.toList=[t,u]) (hx:c.args.toList=[s,x])
 (hu:P.underlying t=some (.slice e)) (hu':P.underlying u=some (.slice e')) (hi:P.info? e=some i) (hz:i.zero=some z) (hs:ar m sl a.tmps.toList) (h:a7 B m lh w)
 (hv:cQ B.w0 S sl lh pl K (.app e i.size i.bytes (z.cells.toList.map bz) (a8 s) (a8 x))):cJ P o a w (Post B m lh K):=by
 have e1:c.argTypes=#[t,u]:=by rw[← ajM,ht]
 have e2:c.args=#[s,x]:=by rw[← ajM,hx]
 have hsz:dL P e=some i.size:=by simp[dL,hi]
 have hss:=aT hs s
 have hxx:=aT hs x
 simp only [cQ]at hv
 generalize arg sl (a8 s)=az at hv hss
 generalize arg sl (a8 x)=ax at hv hxx
 unfold rR at hv
 split at hv
 ·rename_i p n c' q k c''
  obtain ⟨ps,hps,hpp⟩:=fy hss
  obtain ⟨qs,hqs,hqq⟩:=fy hxx
  obtain ⟨new,hnew,hin,hgrow⟩:=hv
  have hpre:∀ {v:Value} {w':World},(Builtin.append_ #[t,u] o.type #[.slice ps n c',.slice qs k c'']).run P w=.ok v w'->Post B m lh K v w'->cJ P o a w (Post B m lh K):=fun hR hP =>
   dJ (s:=Builtin.append_ #[t,u] o.type #[a.eval s,a.eval x]) ho hc (fun cs=>by rw[e1,e2];simp[builtin]) (by rw[hps,hqs];exact hR) hP
  by_cases hcap:n+k<=c'
  ·replace hin:=hin hcap
   obtain ⟨nv,hnrun,hnr⟩:=lr (P:=P) (k:=k) (c:=c'') h hqq hnew
   split at hin
   ·rename_i b off
    obtain ⟨cs,ty,hk,hone,hle,hK⟩:=hin
    obtain ⟨b',hb,rfl⟩:=hpp
    have hones:∀ y∈nv.toList,lP y=true:=by
     have:vrel m (.agg new) (.agg nv):=by simp only[vrel];exact⟨_,rfl,hnr⟩
     exact (mg this (by simpa[ak.flat] using hone)).2
    obtain ⟨w',hrun,hrel⟩:=a7.stores (P:=P) (off:=off+n*i.size) hb new nv.toList cs lh w 0 h hk (by omega) hnr hones
    refine hpre (kU (w':=w') hu hu' hsz hcap hnrun ?_) (Post.store hk hrel ?_ hK)
    ·simp only;rw[lL];exact hrun
    ·simp only[vrel];exact⟨_,rfl,_,hb,rfl⟩
   ·simp only[dC]at hpp;subst hpp
    exact hpre (kU (w':=w) hu hu' hsz hcap hnrun rfl) (Post.same h (by simp only[vrel];exact⟨_,rfl,rfl⟩) hin)
   ·rename_i ad
    obtain ⟨rfl,hK⟩:=hin
    simp only [ar]at hnr
    simp only [dC]at hpp;subst hpp
    refine hpre (kU (w':=w) hu hu' hsz hcap hnrun ?_) (Post.same h (by simp only[vrel];exact⟨_,rfl,rfl⟩) hK)
    simp only;rw[hnr];unfold storeCells;rfl
  ·obtain ⟨old,hold,hbytes,hbig,hK⟩:=hgrow (by omega)
   have hdr:=h.drew (w.drawn+1)
   obtain ⟨nv,hnrun,hnr⟩:=lr (P:=P) (k:=k) (c:=c'') hdr hqq hnew
   obtain ⟨ov,horun,hor⟩:=lr (P:=P) (k:=n) (c:=c') hdr hpp hold
   obtain ⟨nc,hnc,hrun⟩:=ue (P:=P) (ty:=o.type) hu hu' hi hz hcap hbytes hbig horun hnrun
   have hpl:=hK nc hnc
   have hall:ar m (old++new++(List.replicate (nc-(n+k)) (z.cells.toList.map bz)).flatten) (ov++nv++Builtin.zeroCells z.cells (nc-(n+k))).toList:=by
    rw [aqL,aqL,lW]
    exact dF (dF hor hnr) (eB (bT m z.cells.toList) _)
   obtain ⟨p',m',lh',g1,g2,g3,g4⟩:=gr hdr hall hpl
   exact hpre hrun ⟨_,m',lh',by simp only[vrel];exact⟨_,rfl,_,g1,rfl⟩,g2,g3,g4⟩
 ·exact hv.elim
theorem xY {z:List Value} (h:z.all lP=true) (n:Nat):∀ u∈(List.replicate n z).flatten,lP u=true:=fun u hu=>by
 obtain ⟨l,hl,hu⟩:=List.mem_flatten.1 hu
 rw [(List.mem_replicate.1 hl).2]at hu
 exact List.all_eq_true.1 h u hu
theorem Y7 {c:Call} {t e:TypeId} {x:Operand} {i:TypeInfo} {z:Value} (ho:o.op=.call c) (hc:c.callee=.builtin .clear) (ht:c.argTypes.toList=[t]) (hx:c.args.toList=[x])
 (hu:P.underlying t=some (.slice e)) (hi:P.info? e=some i) (hz:i.zero=some z) (h1:z.cells.size=i.size) (h2:z.cells.toList.all lP=true) (hs:ar m sl a.tmps.toList) (h:a7 B m lh w)
 (hv:cQ B.w0 S sl lh pl K (.clr i.size (z.cells.toList.map bz) (a8 x))):cJ P o a w (Post B m lh K):=by
 have e1:c.argTypes=#[t]:=by rw[← ajM,ht]
 have e2:c.args=#[x]:=by rw[← ajM,hx]
 have hxx:=aT hs x
 simp only [cQ]at hv
 split at hv
 ·rename_i k off n c' hp
  rw [hp]at hxx
  obtain ⟨q,hq,hpq⟩:=fy hxx
  obtain ⟨b,hb,rfl⟩:=hpq
  obtain ⟨cs,ty,hk,hn,hle,hK⟩:=hv
  have hrel:=eB (m:=m) (bT m z.cells.toList) n
  have hl:=cv hrel
  obtain ⟨w',hrun,hrel'⟩:=a7.stores (P:=P) (off:=off) hb (List.replicate n (z.cells.toList.map bz)).flatten (List.replicate n z.cells.toList).flatten cs lh w 0 h hk (by rw[ajZ,← hl];simp;rw[h1];omega) hrel (xY h2 n)
  refine dJ (s:=Builtin.clear_ #[t] o.type #[a.eval x]) (w':=w') ho hc (fun cs=>by rw[e1,e2];simp[builtin]) ?_ (Post.store (r:=.tup []) (v:=.tuple #[]) hk hrel' (by simp[vrel,ar]) hK)
  unfold Builtin.clear_
  rw [hq]
  have hzv:(zeroValue e).run P w=.ok z w:=by
   unfold zeroValue;rw[ab (dG hi _)];simp only[hz];rfl
  obtain ⟨n,rfl⟩:∃ n',n=n'+1:=⟨n-1,by omega⟩
  simp only [aox,acM]
  rw [ab (aI hu w)]
  show (do let zv ← zeroValue e;storeCells ⟨b,off,none⟩ (Builtin.zeroCells zv.cells (n+1)).toList;pure (Value.tuple #[]):Sem Value).run P w=_
  rw [ab hzv,lW,ab hrun]
  rfl
 ·rename_i p n c' hnp hp
  rw [hp]at hxx
  obtain ⟨q,hq,hpq⟩:=fy hxx
  obtain ⟨rfl,hK⟩:=hv
  refine dJ (s:=Builtin.clear_ #[t] o.type #[a.eval x]) ho hc (fun cs=>by rw[e1,e2];simp[builtin]) ?_ (Post.same h (by simp[vrel,ar]:vrel m (.tup []) (.tuple #[])) hK)
  unfold Builtin.clear_
  rw [hq]
  simp only [aox,acM]
  rw [ab (aI hu w)]
  cases q<;>rfl
 ·exact hv.elim
theorem QM {c : Call} {f : FuncId} {fn : Func} (hS : ∀ f, (S f).Sound P f) (ho : o.op = .call c) (hc : c.callee = .value (.func f)) (hf : P.funcs[f]? = some fn) (hn : (fn.name == "runtime.NumGoroutine") = false) (hb : fn.body.isNone = false)
 (hs:ar m sl a.tmps.toList) (h:a7 B m lh w) (hv:cQ B.w0 S sl lh pl K (.call f (c.args.toList.map a8))):cJ P o a w (Post B m lh K):=by
 simp only [cQ]at hv
 obtain ⟨_,hcall⟩:=hS f B m lh w _ _ K h (gj hs c.args.toList) hv
 refine .inr (.inr ⟨f,((c.args.toList.map a.eval)).toArray,?_,hcall.mono fun e w' ⟨v,r,m',lh',h1,h2,h3,h4,h5⟩=>⟨v,h1,r,m',lh',h2,h3,h4,h5⟩⟩)
 simp only [execOp,ho]
 rw [ab (a:={ target:=.fn (.func f) #[],args:=#[]++c.args.map a.eval }) (w':=w) (by simp only[resolve,hc,Act.eval];rfl)]
 simp only [invoke,callFunc]
 rw [ab (a:=P) (w':=w) rfl,hf]
 simp only [hn,hb,adg,ajL]
 have:#[]++c.args.map a.eval++#[]=(c.args.toList.map a.eval).toArray:=by
  apply Array.toList_inj.1;simp
 rw [this];rfl
theorem Lj {c:Call} {x:Operand} (hS:∀ f,(S f).Sound P f) (ho:o.op=.call c) (hc:c.callee=.value x)
 (hs:ar m sl a.tmps.toList) (h:a7 B m lh w) (hv:cQ B.w0 S sl lh pl K (.callv (a8 x) (c.args.toList.map a8))):cJ P o a w (Post B m lh K):=by
 have hx:=aT hs x
 simp only [cQ]at hv
 split at hv
 ·rename_i f xs ys hp
  rw [hp]at hx
  simp only [vrel]at hx
  obtain ⟨us,vs,hq,h1,h2⟩:=hx
  obtain ⟨⟨fn,hf,hn,hb⟩,hcall⟩:=hS f B m lh w _ _ K h (dF (dF h1 (gj hs c.args.toList)) h2) hv
  refine .inr (.inr ⟨f,_,?_,hcall.mono fun e w' ⟨v,r,m',lh',h1,h2,h3,h4,h5⟩=>⟨v,h1,r,m',lh',h2,h3,h4,h5⟩⟩)
  simp only [execOp,ho]
  rw [ab (a:={ target:=.fn (.func f) vs,args:=us++c.args.map a.eval }) (w':=w) (by simp only[resolve,hc,hq];rfl)]
  simp only [invoke,callFunc]
  rw [ab (a:=P) (w':=w) rfl,hf]
  simp only [hn,hb,adg,ajL]
  have:us++c.args.map a.eval++vs=(us.toList++c.args.toList.map a.eval++vs.toList).toArray:=by
   apply Array.toList_inj.1;simp
  rw [this];rfl
 ·exact hv.elim
theorem VC {t e:TypeId} {k k':IntKind} {n:Int} {i:TypeInfo} {z:Value} (ho:o.op=.makeSlice t (.const (.int k n)) (.const (.int k' n))) (hu:P.underlying t=some (.slice e)) (hi:P.info? e=some i) (hz:i.zero=some z)
 (hn:0<n) (hn':n<=1000) (hb:(i.bytes:Int)*n<=2 ^ 40) (h0:i.size≠0) (h:a7 B m lh w)
 (hv:cQ B.w0 S sl lh pl K (.mks e n.toNat (((List.range (n.toNat*i.size)).map (z.cells[· % z.cells.size]!)).map bz))):cJ P o a w (Post B m lh K):=by
 have hsz:dL P e=some i.size:=by simp[dL,hi]
 simp only [cQ]at hv
 obtain ⟨p,m',lh',g1,g2,g3,g4⟩:=gr h (vs:=((List.range (n.toNat*i.size)).map (z.cells[· % z.cells.size]!)).toArray) (by simpa using bT m ((List.range (n.toNat*i.size)).map (z.cells[· % z.cells.size]!))) hv
 refine a6 (s:=Instr.makeSlice t (.int k n) (.int k' n)) (v:=.slice (some ⟨w.heap.size,0,none⟩) n.toNat n.toNat) (by simp only[execOp,ho];rfl) ?_ ⟨_,m',lh',by simp only[vrel];exact⟨_,rfl,_,g1,rfl⟩,g2,g3,g4⟩
 have hw:IntKind.i64.wrap n=n:=by
  have h1:n % (2 ^ 64:Int)=n:=Int.emod_eq_of_lt (by omega) (by omega)
  simp only [IntKind.wrap,IntKind.bits,IntKind.signed,h1]
  rw [aaT (by simp;omega)]
 have hzv:(zeroValue e).run P w=.ok z w:=by
  unfold zeroValue;rw[ab (dG hi _)];simp only[hz];rfl
 have hask:(askRoom (n.toNat*i.bytes)).run P w=.ok () w:=by
  unfold askRoom;split<;>rfl
 unfold Instr.makeSlice
 rw [ab (aI hu w)]
 dsimp only
 rw [ab (a:=n) (w':=w) rfl,ab (a:=n) (w':=w) rfl,ab (dG hi w)]
 simp only [hw]
 rw [aaT (by simp;omega),ab hask,ab (run_sizeOf hsz w)]
 have hne:n.toNat*i.size≠0:=Nat.mul_ne_zero (by omega) h0
 rw [aaT hne,ab hzv,pure_bind,ab (jS w)]
 have e:Array.map (fun x=>z.cells[x % z.cells.size]!) (Array.range (n.toNat*i.size))=(List.map (fun x=>z.cells[x % z.cells.size]!) (List.range (n.toNat*i.size))).toArray:=by
  apply Array.toList_inj.1;simp
 rw [e];rfl
theorem oL {eqs:List TypeId} {i:kj} (hS:∀ f,(S f).Sound P f) (hE:∀ t∈eqs,cU P t) (hc:g9 P eqs o=some i) (hs:ar m sl a.tmps.toList) (h:a7 B m lh w) (hv:cQ B.w0 S sl lh pl K i) :
 cJ P o a w (Post B m lh K):=by
 have hc':=hc
 cases ho:o.op<;>simp only[g9,ho]at hc<;>try (cases hc;done)
 case move x=>cases hc;exact GQ (.inl ho) hs h hv
 case assign x=>cases hc;exact GQ (.inr ho) hs h hv
 case pick c x y=>cases hc;exact Ms ho hs h hv
 case alloc t =>
  simp only [aaD]at hc
  obtain ⟨z,hz,rfl⟩:=hc
  exact Vs ho hz h hv
 case box t x=>cases hc;exact Wt ho hs h hv
 case build t ps=>exact K3 ho hc' hs h hv
 case buildSlice t n ps=>exact Vx ho hc' hs h hv
 case load t x=>exact aeX ho hc' hs h hv
 case store t x y =>
  simp only [aaD]at hc
  obtain ⟨n,hn,rfl⟩:=hc
  exact ahf ho hn hs h hv
 case nilCheck x=>cases hc;exact agq ho hs h hv
 case binOp op t x y u =>
  split at hc
  ·rename_i hu;cases hc;exact Ju (neg:=false) rfl ho hu hs h hv
  ·rename_i hu;cases hc;exact Ju (neg:=true) rfl ho hu hs h hv
  ·split at hc
   ·rename_i hm;simp only[aaD]at hc;obtain⟨n,hn,rfl⟩:=hc;exact uH (neg:=false) hn rfl ho (hE t (by simpa using hm)) hs h hv
   ·cases hc
  ·split at hc
   ·rename_i hm;simp only[aaD]at hc;obtain⟨n,hn,rfl⟩:=hc;exact uH (neg:=false) hn rfl ho (hE t (by simpa using hm)) hs h hv
   ·cases hc
  ·split at hc
   ·rename_i hm;simp only[aaD]at hc;obtain⟨n,hn,rfl⟩:=hc;exact uH (neg:=true) hn rfl ho (hE t (by simpa using hm)) hs h hv
   ·cases hc
  ·split at hc
   ·rename_i hm;simp only[aaD]at hc;obtain⟨n,hn,rfl⟩:=hc;exact uH (neg:=true) hn rfl ho (hE t (by simpa using hm)) hs h hv
   ·cases hc
  ·cases hc;exact J0 ho hs h hv
  ·cases hc;exact J0 ho hs h hv
  ·rename_i hu
   split at hc
   ·rename_i hy;cases hc;exact JG (neg:=false) rfl ho hu hy hs h hv
   ·cases hc
  ·rename_i hu
   split at hc
   ·rename_i hy;cases hc;exact JG (neg:=true) rfl ho hu hy hs h hv
   ·cases hc
  ·cases hc
 case unOp op t x=>cases hc;exact ai2 ho hs h hv
 case convert s d x =>
  split at hc
  ·rename_i ds k h1 h2;cases hc;exact Re ho h1 h2 hs h hv
  ·cases hc
 case makeFunc f xs ys=>cases hc;exact YO ho hs h hv
 case fieldAddr t x j =>
  split at hc
  ·rename_i fs hu
   split at hc
   ·rename_i f hf
    split at hc
    ·rename_i n hn
     split at hc
     ·cases hc
     ·rename_i hn0;cases hc;exact aeM ho hu hf hn hn0 hs h hv
    ·cases hc
   ·cases hc
  ·cases hc
 case field t x j =>
  split at hc
  ·rename_i fs hu
   split at hc
   ·rename_i f hf
    simp only [aaD]at hc
    obtain ⟨n,hn,rfl⟩:=hc
    exact Zg ho hu hf hn hs h hv
   ·cases hc
  ·cases hc
 case indexAddr t x ix =>
  split at hc
  ·rename_i n e hu
   simp only [aaD]at hc
   obtain ⟨n,hn,rfl⟩:=hc
   exact WV ho hu hn hs h hv
  ·rename_i e hu
   simp only [aaD]at hc
   obtain ⟨n,hn,rfl⟩:=hc
   exact Wz ho hu hn hs h hv
  ·cases hc
 case index t x ix =>
  split at hc
  ·rename_i n e hu
   split at hc
   ·rename_i s ag h1 h2;cases hc;exact XN ho hu h1 h2 hs h hv
   ·cases hc
  ·rename_i hu;cases hc;exact ZH ho hu hs h hv
  ·cases hc
 case extract x j=>cases hc;exact Xk ho hs h hv
 case makeInterface=>cases hc;simp[cQ,yaL,arg]at hv
 case panic=>cases hc;simp[cQ,yaL,arg]at hv
 case slice t x lo hi mx =>
  split at hc
  ·cases hc
  ·rename_i hmx
   have hmx':¬ (mx.isSome=true/\hi.isSome=false):=by simpa using hmx
   split at hc
   ·rename_i e hu
    simp only [aaD]at hc
    obtain ⟨n,hn,rfl⟩:=hc
    exact V1 ho hmx' hu hn hs h hv
   ·rename_i n e hu
    simp only [aaD]at hc
    obtain ⟨n,hn,rfl⟩:=hc
    exact WS ho hmx' hu hn hs h hv
   ·rename_i hu
    split at hc
    ·cases hc
    ·rename_i hm
     cases mx with
     |none=>cases hc;exact Yq ho hu hs h hv
     |some x=>simp at hm
   ·cases hc
 case makeSlice t x y =>
  unfold JS at hc
  split at hc
  ·rename_i k n k' n' e hu
   split at hc
   ·rename_i i hi
    split at hc
    ·rename_i z hz
     split at hc
     ·rename_i hcond
      simp only [aaw,abN,bne_iff_ne]at hcond
      obtain ⟨⟨⟨⟨rfl,h1⟩,h2⟩,h3⟩,h4⟩:=hcond
      cases hc
      exact VC ho hu hi hz h1 h2 h3 h4 h hv
     ·cases hc
    ·cases hc
   ·cases hc
  ·cases hc
 case call c =>
  split at hc
  ·rename_i f hcal
   split at hc
   ·rename_i fn hf
    split at hc
    ·cases hc
    ·rename_i hcond
     simp only [ajQ,not_or,Bool.not_eq_true]at hcond
     cases hc
     exact QM hS ho hcal hf hcond.1 hcond.2 hs h hv
   ·cases hc
  ·rename_i x hcal
   cases hc
   exact Lj hS ho hcal hs h hv
  ·rename_i b hcal
   unfold tS at hc
   split at hc
   ·rename_i t x ht hx
    split at hc
    ·rename_i e hu;cases hc;exact Zf ho hcal ht hx hu hs h hv
    ·rename_i hu;cases hc;exact NM ho hcal ht hx hu hs h hv
    ·rename_i n e hu;cases hc;exact MG ho hcal ht hx hu h hv
    ·cases hc
   ·rename_i x y xs hx;cases hc;exact PQ (b:=true) ho hcal hx hs h hv
   ·rename_i x y xs hx;cases hc;exact PQ (b:=false) ho hcal hx hs h hv
   ·rename_i t u s x ht hx
    split at hc
    ·rename_i e e' hu hu'
     split at hc
     ·rename_i i hi
      split at hc
      ·rename_i z hz
       split at hc
       ·cases hc
        exact VX ho hcal ht hx hu hu' hi hz hs h hv
       ·cases hc
      ·cases hc
     ·cases hc
    ·cases hc
   ·rename_i t x ht hx
    split at hc
    ·rename_i e hu
     split at hc
     ·rename_i i hi
      split at hc
      ·rename_i z hz
       split at hc
       ·rename_i hcond
        simp only [aaw,abN]at hcond
        cases hc
        exact Y7 ho hcal ht hx hu hi hz hcond.1 hcond.2 hs h hv
       ·cases hc
      ·cases hc
     ·cases hc
    ·cases hc
   ·cases hc
  ·cases hc
end
end Go.Sx
namespace Go.Sx
structure gS where
 dst:Option Nat
 op:kj
 guard:Option (Nat×Bool)
inductive Ex where
 |normal
 |exit (id:Nat)
 |ret
def eb (sl:List ak) (d:Option Nat) (v:ak):List ak :=
 match d with
 |some d=>sl.set d v
 |none=>sl
def eE (w0:World) (S:FuncId->bH):List gS->List ak->List ao->(List ak->List ao->Prop)->Prop
 |[],sl,lh,K=>K sl lh
 | o :: rest,sl,lh,K =>
   match o.guard with
   |none=>cQ w0 S sl lh none (fun v lh'=>eE w0 S rest (eb sl o.dst v) lh' K) o.op
   | some (d,want) =>
     match sl.getD d .any with
     | .bool b=>(b=want->cQ w0 S (sl.set d (.bool want)) lh none (fun v lh'=>eE w0 S rest (eb (sl.set d (.bool want)) o.dst v) lh' K) o.op) /\
        (b=!want->eE w0 S rest (eb (sl.set d (.bool (!want))) o.dst (.tup [])) lh K)
     |.tup vs=>eE w0 S rest (eb (sl.set d (.tup vs)) o.dst (.tup [])) lh K
     |.int ..=>eE w0 S rest (eb sl o.dst (.tup [])) lh K
     |_=>False
def kd (P:Program) (eqs:List TypeId) (ops:Array Oper) (o:Oper):Option gS :=
 match g9 P eqs o,o.guard with
 |some i,none=>some ⟨o.dst,i,none⟩
 | some i,some (j,want)=>match (ops[j]?).bind (·.dst) with
   |some d=>some ⟨o.dst,i,some (d,want)⟩
   |none=>none
 |none,_=>none
def eM (P:Program) (eqs:List TypeId) (ops:Array Oper):List Oper->Option (List gS)
 |[]=>some []
 | o::l=>match kd P eqs ops o,eM P eqs ops l with
   |some x,some xs=>some (x::xs)
   |_,_=>none
structure jU (F:Fence):Prop where
 fn:∀ f,F.fn f
 depth:F.depth=none
 alive:F.alive=false
theorem jU.fenced {F:Fence} (h:jU F) (P:Program) (mc:Machine):mc.fenced P F:=fun g _ =>
 ⟨fun e=>(by rw[h.alive]at e;cases e),.inl (h.fn _),fun _ _=>h.fn _,fun d hd=>by rw[h.depth]at hd;cases hd⟩
theorem jU.steps {F:Fence} (h:jU F) {P:Program} {a b:Machine}:StepsIn (Machine.fenced P F) P a b↔Steps P a b :=
 ⟨StepsIn.steps,fun k=>(StepsIn.of_steps k).mono fun mc _=>h.fenced P mc⟩
theorem jU.calls {F:Fence} (h:jU F) {n:Nat} {P:Program} {f:FuncId} {args:Array Value} {w:World} {R:Ending->World->Prop} (hc:Calls P f args w R):CallsIn F n P f args w R :=
 ⟨h.fn f,fun cs _=>let ⟨e,w',fr,r,s,x⟩:=hc cs;⟨e,w',fr,r,by cases e with
   |returned v=>exact h.steps.2 s
   |panicked c=>exact h.steps.2 s
   |outgrown=>exact s,x⟩⟩
theorem K6:jU Fence.wide:=⟨fun _=>trivial,rfl,rfl⟩
section
variable {P:Program} {B:cY} {S:FuncId->bH} {eqs:List TypeId} {F:Fence} {n:Nat} {ops:Array Oper}
theorem xW {o:Oper} {i:kj} (hc:g9 P eqs o=some i) (r:Option Nat) (ρ:Operand->Value):o.semAt r ρ=execOp ρ o:=by
 unfold Oper.semAt
 split
 ·rename_i l d c ho
  simp only [g9,ho]at hc
  cases hc
 ·rfl
def iT (B:cY) (m:aF) (sl:List ak) (lh:List ao) (a:Act) (w:World):Prop:=ar m sl a.tmps.toList/\a.defers=B.ds/\a7 B m lh w
theorem CZ (a:Act) (d:Option Tmp) (v:Value):(a.put d v).tmps.toList=match d with|some d=>a.tmps.toList.set d v|none=>a.tmps.toList:=by
 cases d<;>simp[Act.put]
theorem iT.put {m m':aF} {sl:List ak} {lh lh':List ao} {a:Act} {w w':World} (h:iT B m sl lh a w) (hm:m.le m') (h':a7 B m' lh' w') (d:Option Nat) {r:ak} {v:Value} (hr:vrel m' r v) :
 iT B m' (eb sl d r) lh' (a.put d v) w':=by
 refine ⟨?_,by cases d<;>exact h.2.1,h'⟩
 rw [CZ]
 cases d with
 |none=>exact cA hm _ _ h.1
 |some d=>exact jH d (cA hm _ _ h.1) hr
theorem iw (hF:jU F) {o:Oper} {i:kj} (hc:g9 P eqs o=some i) {a:Act} {w:World} {R:Value->World->Prop} {next:Act->World->Prop} {Q:Exit->Act->World->Prop}
 (h:cJ P o a w R) (hn:∀ v w',R v w'->next (a.put o.dst v) w'):o.wpIn F n P a w next Q:=by
 refine ⟨fun f _=>hF.fn f,?_⟩
 rw [xW hc]
 rcases h with ⟨v,w',h1,h2⟩|⟨w',h1,h2⟩|⟨f,args,h1,h2⟩
 ·rw[h1];exact hn _ _ h2
 ·rw[h1];exact hn _ _ h2
 ·rw[h1]
  refine ⟨fun e=>(by rw[hF.depth]at e;cases e),hF.calls (h2.mono fun e w' ⟨v,he,hR⟩=>?_)⟩
  subst he;exact hn _ _ hR
theorem yai {m:aF} {sl:List ak} {a:Act} (hs:ar m sl a.tmps.toList) {j d:Nat} (hj:(ops[j]?).bind (·.dst)=some d) :
 (∀ b,sl.getD d .any=.bool b->yielded ops a.tmps j=some b)/\(∀ vs,sl.getD d .any=.tup vs->yielded ops a.tmps j=none)/\(∀ k n,sl.getD d .any=.int k n->yielded ops a.tmps j=none):=by
 have key:∀ x,sl.getD d .any=x->x≠.any->∃ v,a.tmps[d]? = some v/\vrel m x v:=fun x hx hne=>by
  cases hg:sl[d]? with
  |none=>simp[List.getD,hg]at hx;exact(hne hx.symm).elim
  | some y =>
    obtain ⟨v,hv,hr⟩:=hU d hs hg
    simp [List.getD,hg]at hx
    subst hx
    exact ⟨v,by simpa using hv,hr⟩
 refine ⟨fun b hb=>?_,fun vs hb=>?_,fun k n hb=>?_⟩<;>obtain⟨v,hv,hr⟩:=key _ hb (by simp)<;>simp only[yielded,hj,Option.bind_some,hv]
 ·rw[gY hr]
 ·simp only[vrel]at hr;obtain⟨us,rfl,_⟩:=hr;rfl
 ·rw[eQ hr]
theorem eV {m:aF} {sl:List ak} {lh:List ao} {a:Act} {w:World} (h:iT B m sl lh a w) {d:Nat} {x:ak} (hx:sl.getD d .any=x):iT B m (sl.set d x) lh a w:=by
 refine ⟨?_,h.2.1,h.2.2⟩
 cases hg:sl[d]? with
 | none =>
   rw [List.set_eq_of_length_le (by simpa using hg)];exact h.1
 | some y =>
   simp [List.getD,hg]at hx
   subst hx
   have:sl.set d y=sl:=by
    apply agE; intro j
    rw [aaZ];split
    ·rename_i e;subst e
     obtain ⟨h1,h2⟩:=List.getElem?_eq_some_iff.1 hg
     simp [h1,h2]
    ·rfl
   rw [this];exact h.1
theorem oo (hF:jU F) (hS:∀ f,(S f).Sound P f) (hE:∀ t∈eqs,cU P t) {Q:Exit->Act->World->Prop} (rest:List Nat):∀ (l:List Oper) (xs:List gS) (k:Nat) (sl:List ak) (lh:List ao) (m:aF) (a:Act) (w:World) (K:List ak->List ao->Prop),
 (∀ j,j<l.length->l[j]? = ops[k+j]?)->eM P eqs ops l=some xs->eE B.w0 S xs sl lh K->iT B m sl lh a w ->
 (∀ sl' lh' m' a' w',iT B m' sl' lh' a' w'->hG lh m lh' m'->K sl' lh'->wpOpsIn F n P ops Q rest a' w')->wpOpsIn F n P ops Q (List.range' k l.length++rest) a w
 | [],xs,k,sl,lh,m,a,w,K,_,hc,hv,hs,hQ=>by
   simp only [eM,aaB]at hc;subst hc
   exact hQ _ _ _ _ _ hs (hG.refl _ _) hv
 | o :: l,xs,k,sl,lh,m,a,w,K,hl,hc,hv,hs,hQ=>by
   have h0:ops[k]? = some o:=by simpa using(hl 0 (by simp)).symm
   have hl':∀ j,j<l.length->l[j]? = ops[k+1+j]? := fun j hj=>by have:=hl (j+1) (by simpa using hj);simpa[aoY,ari 1 j] using this
   simp only [eM]at hc
   split at hc
   ·rename_i x xs' hx hxs
    cases hc
    simp only [adM,anv,api,wpOpsIn,h0]
    have ih:=fun sl1 lh1 m1 a1 w1 hv hs (he:hG lh m lh1 m1)=>oo hF hS hE rest l xs' (k+1) sl1 lh1 m1 a1 w1 K hl' hxs hv hs (fun sl' lh' m' a' w' h1 h2 h3=>hQ sl' lh' m' a' w' h1 (he.trans h2) h3)
    unfold kd at hx
    split at hx
    ·rename_i i hi hg
     cases hx
     simp only [eE]at hv
     rw [aby (by simp[Region.wanted,hg])]
     refine iw hF hi (oL hS hE hi hs.1 hs.2.2 hv) fun v w' ⟨r,m',lh',h1,h2,h3,h4⟩=>?_
     exact ih _ _ m' _ _ h4 (hs.put h2.1 h3 o.dst h1) h2
    ·rename_i i j want hi hg
     split at hx
     ·rename_i d hd
      cases hx
      simp only [eE]at hv
      obtain ⟨y1,y2,y3⟩:=yai (ops:=ops) hs.1 hd
      split at hv
      ·rename_i b hb
       have hy:=y1 b hb
       by_cases hbw:b=want
       ·subst hbw
        have hs':=eV hs hb
        rw [aby (by simp[Region.wanted,hg,hy])]
        refine iw hF hi (oL hS hE hi hs'.1 hs'.2.2 (hv.1 rfl)) fun v w' ⟨r,m',lh',h1,h2,h3,h4⟩=>?_
        exact ih _ _ m' _ _ h4 (hs'.put h2.1 h3 o.dst h1) h2
       ·have hbn:b=!want:=by cases b<;>cases want<;>simp_all
        have hs':=eV hs hb
        rw [aaT (by simp[Region.wanted,hg,hy,hbw])]
        refine ⟨fun f _=>hF.fn f,?_⟩
        rw [hbn]at hs'
        exact ih _ _ m _ _ (hv.2 hbn) (hs'.put (aF.le_refl m) hs.2.2 o.dst (by simp[vrel,ar,undef])) (hG.refl _ _)
      ·rename_i vs hb
       rw [aaT (by simp[Region.wanted,hg,y2 _ hb])]
       refine ⟨fun f _=>hF.fn f,?_⟩
       exact ih _ _ m _ _ hv ((eV hs hb).put (aF.le_refl m) hs.2.2 o.dst (by simp[vrel,ar,undef])) (hG.refl _ _)
      ·rename_i hb
       rw [aaT (by simp[Region.wanted,hg,y3 _ _ hb])]
       refine ⟨fun f _=>hF.fn f,?_⟩
       exact ih _ _ m _ _ hv (hs.put (aF.le_refl m) hs.2.2 o.dst (by simp[vrel,ar,undef])) (hG.refl _ _)
      ·exact hv.elim
     ·cases hx
    ·cases hx
   ·cases hc
end
end Go.Sx
namespace Go.Sx
structure bH.Ok (P:Program) (f:FuncId) (S:bH):Prop where
 sound:S.Sound P f
 mono:∀ w0 args lh K K',(∀ r l,K r l->K' r l)->S w0 args lh K->S w0 args lh K'
 strict:∀ w0 args lh (Q:Prop),S w0 args lh (fun _ _=>Q)->Q
def Ob:kj->Bool
 |.call ..|.callv ..|.app ..=>false
 |_=>true
section
variable {w0:World} {S:FuncId->bH} {sl:List ak} {lh:List ao} {pl:Option Nat}
theorem FJ {o:ao} {K K':Nat->List ao->Prop} (h:∀ p l,K p l->K' p l) (hp:place pl lh o K):place pl lh o K':=by
 cases pl with
 |none=>exact h _ _ hp
 |some p=>exact⟨hp.1,h _ _ hp.2⟩
theorem KC (o:ao):∃ d:Option (Nat×List ao),∀ K:Nat->List ao->Prop,place pl lh o K↔∃ p l,d=some (p,l)/\K p l:=by
 cases pl with
 |none=>exact⟨some (lh.length,lh++[o]),fun K=>⟨fun h=>⟨_,_,rfl,h⟩,fun ⟨p,l,e,h⟩=>by cases e;exact h⟩⟩
 | some p =>
   by_cases hd:lh[p]? = some .dead
   ·exact⟨some (p,lh.set p o),fun K=>⟨fun h=>⟨_,_,rfl,h.2⟩,fun ⟨q,l,e,h⟩=>by cases e;exact⟨hd,h⟩⟩⟩
   ·exact⟨none,fun K=>⟨fun h=>(hd h.1).elim,fun ⟨q,l,e,h⟩=>by cases e⟩⟩
def bS (Φ:(ak->List ao->Prop)->Prop):Prop:=∃ d:Option (ak×List ao),∀ K,Φ K↔∃ v l,d=some (v,l)/\K v l
theorem bS.yes (v:ak) (l:List ao):bS (fun K=>K v l):=⟨some (v,l),fun _=>⟨fun h=>⟨_,_,rfl,h⟩,fun ⟨_,_,e,h⟩=>by cases e;exact h⟩⟩
theorem bS.no:bS (fun _=>False):=⟨none,fun _=>⟨fun h=>h.elim,fun ⟨_,_,e,_⟩=>by cases e⟩⟩
theorem bS.and {Φ:(ak->List ao->Prop)->Prop} (p:Prop) (h:bS Φ):bS (fun K=>p/\Φ K):=by
 obtain ⟨d,hd⟩:=h
 by_cases hp:p
 ·exact⟨d,fun K=>⟨fun h=>(hd K).1 h.2,fun h=>⟨hp,(hd K).2 h⟩⟩⟩
 ·exact⟨none,fun K=>⟨fun h=>(hp h.1).elim,fun ⟨_,_,e,_⟩=>by cases e⟩⟩
theorem bS.ex {α:Type} {Φ:α->(ak->List ao->Prop)->Prop} (x:Option α) (h:∀ a,bS (Φ a)):bS (fun K=>∃ a,x=some a/\Φ a K):=by
 cases x with
 |none=>exact⟨none,fun K=>⟨fun ⟨_,e,_⟩=>(by cases e),fun ⟨_,_,e,_⟩=>(by cases e)⟩⟩
 | some a =>
   obtain ⟨d,hd⟩:=h a
   exact ⟨d,fun K=>⟨fun ⟨_,e,hK⟩=>(by cases e;exact(hd K).1 hK),fun hK=>⟨a,rfl,(hd K).2 hK⟩⟩⟩
theorem bS.congr {Φ Ψ:(ak->List ao->Prop)->Prop} (h:∀ K,Φ K↔Ψ K) (hd:bS Ψ):bS Φ:=by
 obtain ⟨d,hd⟩:=hd
 exact ⟨d,fun K=>(h K).trans (hd K)⟩
theorem bS.place (o:ao) (f:Nat->ak):bS (fun K=>place pl lh o fun p l=>K (f p) l):=by
 obtain ⟨d,hd⟩:=KC (lh:=lh) (pl:=pl) o
 refine ⟨d.map fun(p,l)=>(f p,l),fun K=>(hd _).trans ⟨fun ⟨p,l,e,h⟩=>⟨_,_,by rw[e];rfl,h⟩,fun ⟨v,l,e,h⟩=>?_⟩⟩
 cases d with
 |none=>cases e
 |some d=>cases e;exact⟨_,_,rfl,h⟩
theorem bS.bnd {Φ:Nat->(ak->List ao->Prop)->Prop} (x:Option ak) (y d:Nat) (h:∀ n,bS (Φ n)):bS (fun K=>bnd x y d fun n=>Φ n K):=by
 unfold Sx.bnd
 cases x with
 |none=>exact h d
 |some x=>cases x<;>first|exact bS.no|exact bS.and _ (bS.and _ (h _))
theorem bS.parts (ps:List (Nat×Nat×fi)):∀ (z:List ak) {Φ:List ak->(ak->List ao->Prop)->Prop},(∀ cs,bS (Φ cs))->bS (fun K=>parts sl ps z fun cs=>Φ cs K):=by
 induction ps with
 |nil=>intro z Φ h;exact h z
 |cons p ps ih=>intro z Φ h;obtain⟨off,n,x⟩:=p;exact bS.and _ (bS.and _ (bS.and _ (ih _ h)))
theorem bS.mm2 (b:Bool) (l:List ao):∀ (ys:List ak) (x:ak),bS (fun K=>mm2 b x ys fun v=>K v l)
 |[],x=>by cases x<;>exact bS.yes _ _
 | y :: ys,x=>by
   cases x with
   | int k a=>cases y with
     |int k' c=>exact bS.and _ (bS.mm2 b l ys _)
     |_=>exact bS.no
   |_=>cases y<;>exact bS.no
theorem Af {op:kj} (h:Ob op=true):bS (fun K=>cQ w0 S sl lh pl K op):=by
 cases op<;>simp only[Ob,adg]at h<;>clear h<;>simp only[cQ]
 case mov=>exact bS.yes _ _
 case pick c x y =>
  cases arg sl c<;>try exact bS.no
  rename_i t
  cases t
  ·exact bS.congr (fun K=>⟨fun h=>h.2 rfl,fun h=>⟨fun e=>(by cases e),fun _=>h⟩⟩) (bS.yes (arg sl y) lh)
  ·exact bS.congr (fun K=>⟨fun h=>h.1 rfl,fun h=>⟨fun _=>h,fun e=>(by cases e)⟩⟩) (bS.yes (arg sl x) lh)
 case new=>exact bS.place _ _
 case box=>exact bS.and _ (bS.place _ _)
 case agg=>exact bS.parts _ _ fun _=>bS.yes _ _
 case bsl=>exact bS.parts _ _ fun _=>bS.place _ _
 case ld x =>
  cases arg sl x<;>try exact bS.no
  rename_i p
  cases p
  ·exact bS.no
  ·exact bS.ex _ fun _=>bS.yes _ _
 case lds n x =>
  cases arg sl x<;>try exact bS.no
  rename_i p
  cases p
  ·exact bS.no
  ·exact bS.ex _ fun _=>bS.yes _ _
 case isn neg x =>
  cases arg sl x<;>first|exact bS.no|exact bS.yes _ _
 case clr esz z x =>
  cases arg sl x<;>try exact bS.no
  rename_i p n c
  cases p with
  |none=>exact bS.and _ (bS.yes _ _)
  | some p =>
    cases p with
    |g a=>exact bS.and _ (bS.yes _ _)
    | l k off =>
      cases hg:lh[k]? with
      |none=>exact bS.congr (fun K=>⟨fun ⟨_,_,e,_⟩=>(by rw[hg]at e;cases e),fun h=>h.elim⟩) bS.no
      | some ob =>
        cases ob with
        | cells cs ty =>
          refine bS.congr (Ψ:=fun K=>n≠0/\off+n*esz<=cs.length/\K (.tup []) (lh.set k (.cells (wr cs off (List.replicate n z).flatten) ty))) (fun K=>?_) (bS.and _ (bS.and _ (bS.yes _ _)))
          constructor
          ·rintro⟨cs',ty',e,h1,h2,h3⟩
           rw [hg]at e;cases e;exact⟨h1,h2,h3⟩
          ·rintro⟨h1,h2,h3⟩
           exact ⟨cs,ty,hg,h1,h2,h3⟩
        |dead=>exact bS.congr (fun K=>⟨fun ⟨_,_,e,_⟩=>(by rw[hg]at e;cases e),fun h=>h.elim⟩) bS.no
        |hid=>exact bS.congr (fun K=>⟨fun ⟨_,_,e,_⟩=>(by rw[hg]at e;cases e),fun h=>h.elim⟩) bS.no
 case st n x y =>
  cases arg sl x<;>try exact bS.no
  rename_i p
  cases p
  ·exact bS.no
  rename_i p
  cases p
  ·rename_i k off
   cases hg:lh[k]? with
   |none=>exact bS.congr (fun K=>⟨fun ⟨_,_,e,_⟩=>(by rw[hg]at e;cases e),fun h=>h.elim⟩) bS.no
   | some ob =>
     cases ob with
     | cells cs ty =>
       refine bS.congr (Ψ:=fun K=>(arg sl y).flat=true/\(arg sl y).cells.length=n/\off+n<=cs.length/\K (.tup []) (lh.set k (.cells (wr cs off (arg sl y).cells) ty))) (fun K=>?_) (bS.and _ (bS.and _ (bS.and _ (bS.yes _ _))))
       exact ⟨fun ⟨_,_,e,h⟩=>(by rw[hg]at e;cases e;exact h),fun h=>⟨cs,ty,hg,h⟩⟩
     |_=>exact bS.congr (fun K=>⟨fun ⟨_,_,e,_⟩=>(by rw[hg]at e;cases e),fun h=>h.elim⟩) bS.no
  ·exact bS.no
 case nz x =>
  cases arg sl x<;>try exact bS.no
  ·rename_i p
   cases p
   ·exact bS.no
   ·exact bS.yes _ _
  ·rename_i f _ _
   cases f<;>first|exact bS.yes _ _|exact bS.no
 case bin op x y =>
  unfold Rr
  cases arg sl x<;>cases arg sl y<;>try exact bS.no
  ·refine bS.and _ ?_
   cases op<;>simp only[rY]<;>first|exact bS.yes _ _|exact bS.and _ (bS.yes _ _)|exact bS.no
  ·cases op<;>simp only[Bj]<;>first|exact bS.yes _ _|exact bS.and _ (bS.yes _ _)|exact bS.no
 case eqa neg n x y =>
  cases arg sl x<;>cases arg sl y<;>try exact bS.no
  exact bS.and _ (bS.ex _ fun _=>bS.yes _ _)
 case eqb neg x y =>
  cases arg sl x<;>cases arg sl y<;>try exact bS.no
  exact bS.yes _ _
 case un op x =>
  cases op<;>cases arg sl x<;>first|exact bS.no|exact bS.yes _ _
 case conv k x=>cases arg sl x<;>first|exact bS.no|exact bS.yes _ _
 case mkf=>exact bS.yes _ _
 case fa off x =>
  cases arg sl x<;>try exact bS.no
  rename_i p
  cases p<;>first|exact bS.no|exact bS.yes _ _
 case fld off n x =>
  cases arg sl x<;>try exact bS.no
  cases n
  ·exact bS.ex _ fun _=>bS.yes _ _
  ·exact bS.yes _ _
 case iaA n esz x ix =>
  cases arg sl x<;>try exact bS.no
  rename_i p
  cases p<;>try exact bS.no
  cases arg sl ix<;>first|exact bS.no|exact bS.and _ (bS.and _ (bS.yes _ _))
 case iaS esz x ix =>
  cases arg sl x<;>try exact bS.no
  cases arg sl ix<;>first|exact bS.no|exact bS.and _ (bS.and _ (bS.ex _ fun _=>bS.yes _ _))
 case ixA n esz sz x ix =>
  cases arg sl x<;>try exact bS.no
  cases arg sl ix<;>try exact bS.no
  refine bS.and _ (bS.and _ ?_)
  cases sz
  ·exact bS.ex _ fun _=>bS.yes _ _
  ·exact bS.yes _ _
 case ixS x ix =>
  cases arg sl x<;>try exact bS.no
  cases arg sl ix<;>first|exact bS.no|exact bS.and _ (bS.and _ (bS.yes _ _))
 case len x=>cases arg sl x<;>first|exact bS.no|exact bS.yes _ _
 case lenT x=>cases arg sl x<;>first|exact bS.no|exact bS.yes _ _
 case lenA=>exact bS.yes _ _
 case mm=>exact bS.mm2 _ _ _ _
 case ext x i =>
  cases arg sl x<;>try exact bS.no
  exact bS.ex _ fun _=>bS.yes _ _
 case slS esz x lo hi mx =>
  cases arg sl x<;>try exact bS.no
  exact bS.bnd _ _ _ fun _=>bS.bnd _ _ _ fun _=>bS.bnd _ _ _ fun _=>bS.yes _ _
 case slA n esz x lo hi mx =>
  cases arg sl x<;>try exact bS.no
  rename_i p
  cases p<;>try exact bS.no
  exact bS.bnd _ _ _ fun _=>bS.bnd _ _ _ fun _=>bS.bnd _ _ _ fun _=>bS.yes _ _
 case slT x lo hi =>
  cases arg sl x<;>try exact bS.no
  exact bS.bnd _ _ _ fun _=>bS.bnd _ _ _ fun _=>bS.yes _ _
 case mks=>exact bS.place _ _
theorem bS.mono {Φ:(ak->List ao->Prop)->Prop} (h:bS Φ) {K K':ak->List ao->Prop} (hk:∀ v l,K v l->K' v l) (hp:Φ K):Φ K':=by
 obtain ⟨d,hd⟩:=h
 obtain ⟨v,l,e,hK⟩:=(hd K).1 hp
 exact (hd K').2 ⟨v,l,e,hk _ _ hK⟩
theorem Gz {ty:TypeId} {esz bytes:Nat} {zero:List ak} {K K':ak->List ao->Prop} {x y:ak} (hk:∀ v l,K v l->K' v l) (h:rR w0 lh pl ty esz bytes zero K x y):rR w0 lh pl ty esz bytes zero K' x y:=by
 unfold rR at *
 split at h
 ·rename_i p n c q k _
  obtain ⟨new,h1,h2,h3⟩:=h
  refine ⟨new,h1,fun hc=>?_,fun hc=>?_⟩
  ·have h2:=h2 hc
   cases p with
   |none=>exact hk _ _ h2
   | some p=>cases p with
     |l b off=>obtain⟨cs,t,a,b,c,d⟩:=h2;exact⟨cs,t,a,b,c,hk _ _ d⟩
     |g a=>exact⟨h2.1,hk _ _ h2.2⟩
  ·obtain⟨old,a,b,c,d⟩:=h3 hc
   exact ⟨old,a,b,c,fun c' hc'=>FJ (fun _ _=>hk _ _) (d c' hc')⟩
 ·exact h.elim
theorem zS {o:ao} {Q:Prop} (h:place pl lh o fun _ _=>Q):Q:=by
 cases pl with
 |none=>exact h
 |some p=>exact h.2
theorem AS {ty:TypeId} {esz bytes:Nat} {zero:List ak} {Q:Prop} {x y:ak} (h:rR w0 lh pl ty esz bytes zero (fun _ _=>Q) x y):Q:=by
 unfold rR at h
 split at h
 ·rename_i p n c q k _
  obtain ⟨new,h1,h2,h3⟩:=h
  by_cases hc:n+k<=c
  ·have h2:=h2 hc
   cases p with
   |none=>exact h2
   | some p=>cases p with
     |l b off=>obtain⟨cs,t,a,b,c,d⟩:=h2;exact d
     |g a=>exact h2.2
  ·obtain⟨old,a,b,c,d⟩:=h3 (by omega)
   exact zS (d _ (aaS _))
 ·exact h.elim
theorem dl {P:Program} (hS:∀ f,(S f).Ok P f) {op:kj} {K K':ak->List ao->Prop} (hk:∀ v l,K v l->K' v l) (h:cQ w0 S sl lh pl K op):cQ w0 S sl lh pl K' op:=by
 by_cases hd:Ob op=true
 ·exact(Af hd).mono hk h
 ·cases op<;>simp only[Ob,apF]at hd<;>simp only[cQ]at h ⊢
  case call f xs=>exact(hS f).mono _ _ _ _ _ hk h
  case callv x xs =>
   split at h
   ·exact(hS _).mono _ _ _ _ _ hk h
   ·exact h.elim
  case app=>exact Gz hk h
theorem mO {P:Program} (hS:∀ f,(S f).Ok P f) {op:kj} {Q:Prop} (h:cQ w0 S sl lh pl (fun _ _=>Q) op):Q:=by
 by_cases hd:Ob op=true
 ·obtain⟨d,hd⟩:=Af (w0:=w0) (S:=S) (sl:=sl) (lh:=lh) (pl:=pl) hd
  obtain ⟨_,_,_,hQ⟩:=(hd _).1 h
  exact hQ
 ·cases op<;>simp only[Ob,apF]at hd<;>simp only[cQ]at h
  case call f xs=>exact(hS f).strict _ _ _ _ h
  case callv x xs =>
   split at h
   ·exact(hS _).strict _ _ _ _ h
   ·exact h.elim
  case app=>exact AS h
end
end Go.Sx
namespace Go.Sx
def hide (X:List Nat) (lh:List ao):List ao:=lh.mapIdx fun k o=>if k∈X then .hid else o
def mix (W:List Nat) (lh l:List ao):List ao:=lh.mapIdx fun k o=>if k∈W then l.getD k o else o
def jA (W:List Nat) (l h:List ao):Prop:=l.length=h.length/\∀ k,k∉W->l[k]? = h[k]?
theorem hide_get (X:List Nat) (lh:List ao) (k:Nat):(hide X lh)[k]? = if k∈X then lh[k]?.map (fun _=>.hid) else lh[k]? := by
 unfold hide
 rw [apd]
 split
 ·cases lh[k]? with
  |none=>rfl
  |some o=>simp
 ·cases lh[k]? with
  |none=>rfl
  |some o=>simp
theorem hide_length (X:List Nat) (lh:List ao):(hide X lh).length=lh.length:=by simp[hide]
theorem uq (W:List Nat) (lh l:List ao) (k:Nat):(mix W lh l)[k]? = if k∈W then lh[k]?.map (fun o=>l.getD k o) else lh[k]? := by
 unfold mix
 rw [apd]
 split
 ·cases lh[k]? with
  |none=>rfl
  |some o=>simp
 ·cases lh[k]? with
  |none=>rfl
  |some o=>simp
theorem E1 (W:List Nat) (lh l:List ao):(mix W lh l).length=lh.length:=by simp[mix]
theorem a7.unhide {B:cY} {m m':aF} {lh lh':List ao} {w w':World} {X W:List Nat} (h:a7 B m lh w)
 (h':a7 ⟨B.w0,w,fun b=>∃ k cs ty,k∉X/\lh[k]? = some (.cells cs ty)/\m k=some b,B.ds⟩ m' lh' w') (he:hG (hide X lh) m lh' m') (hw:jA W lh' (hide X lh)) :
 a7 B m' (mix W lh lh') w'/\hG lh m (mix W lh lh') m':=by
 have hlen:lh'.length=lh.length:=by rw[hw.1,hide_length]
 -- what an entry of the new heap is
 have hent:∀ k o,(mix W lh lh')[k]? = some o->(lh'[k]? = some o) ∨ (k ∈ X/\lh[k]? = some o/\lh'[k]? = some .hid):=fun k o hk=>by
  rw [uq]at hk
  split at hk
  ·cases hl:lh[k]? with
   |none=>rw[hl]at hk;cases hk
   | some o' =>
     rw [hl]at hk;simp at hk
     have hlt:k<lh'.length:=by rw[hlen];exact(List.getElem?_eq_some_iff.1 hl).1
     left
     rw [ach hlt]at hk ⊢
     simpa using hk
  ·rename_i hkW
   have hk':=hw.2 k hkW
   rw [hide_get]at hk'
   split at hk'
   ·rename_i hX
    right
    exact ⟨hX,hk,by rw[hk',hk];rfl⟩
   ·left;rw[hk'];exact hk
 have hnoown:∀ k cs ty b,k∈X->lh[k]? = some (.cells cs ty)->m k=some b->¬ ∃ j cs ty,j∉X/\lh[j]? = some (ao.cells cs ty)/\m j=some b:=fun k cs ty b hX hk hb ⟨j,cs',ty',hj,hl,hb'⟩=>by
  exact hj (h.inj j k b cs' cs ty' ty hl hk hb' hb▸hX)
 refine ⟨⟨h'.os.trans h.os,h'.tape.trans h.tape,h'.output.trans h.output,h'.size,h'.old,ajf h.fsize h'.fsize,fun b hb ho=>?_,fun k cs ty hk=>?_,fun k k' b cs cs' ty ty' h1 h2 hb hb'=>?_,fun k hk=>?_,fun k hk=>?_,h'.rng⟩,he.1,fun k hk=>?_⟩
 ·rw [h'.kept b (ahs hb h.fsize) (fun ⟨k,cs,ty,_,hl,hm⟩=>?_)]
  ·exact h.kept b hb ho
  ·obtain⟨b',_,hb',_,_,_,h3⟩:=h.loc k cs ty hl
   rw [hm]at hb';cases hb'
   rcases h3 with h3|h3
   ·omega
   ·exact ho h3
 ·rcases hent k _ hk with hl|⟨hX,hl,_⟩
  ·obtain ⟨b,vs,hb,hvs,hh,h1,h2⟩:=h'.loc k cs ty hl
   refine ⟨b,vs,hb,hvs,hh,h1,?_⟩
   rcases h2 with h2|⟨j,cs',ty',hj,hlj,hmj⟩
   ·exact .inl (ajf h.fsize h2)
   ·obtain⟨b',_,hb',_,_,_,h3⟩:=h.loc j cs' ty' hlj
    rw [hmj]at hb';cases hb'
    exact h3
  ·obtain⟨b,vs,hb,hvs,hh,h1,h2⟩:=h.loc k cs ty hl
   refine ⟨b,vs,he.1 _ _ hb,cA he.1 _ _ hvs,?_,h1,h2⟩
   rw [h'.kept b (h.rng k b hb) (hnoown k cs ty b hX hl hb)]
   exact hh
 ·have mixed:∀ k k' b cs cs' ty ty',lh'[k]? = some (.cells cs ty)->k' ∈ X->lh[k']? = some (.cells cs' ty')->m' k=some b->m' k'=some b->False:=fun k k' b cs cs' ty ty' hl hX hl' hb hb'=>by
   obtain ⟨b0,_,hb0,_⟩:=h.loc k' cs' ty' hl'
   have e:=he.1 _ _ hb0
   rw [hb']at e;cases e
   obtain ⟨b1,_,hb1,_,_,_,h2⟩:=h'.loc k cs ty hl
   rw [hb]at hb1;cases hb1
   rcases h2 with h2|h2
   ·have h3:=h.rng k' b hb0
    have h4:w.heap.size<=b:=h2
    omega
   ·exact hnoown k' cs' ty' b hX hl' hb0 h2
  rcases hent k _ h1 with hl|⟨hX,hl,_⟩<;>rcases hent k' _ h2 with hl'|⟨hX',hl',_⟩
  ·exact h'.inj k k' b cs cs' ty ty' hl hl' hb hb'
  ·exact(mixed k k' b cs cs' ty ty' hl hX' hl' hb hb').elim
  ·exact(mixed k' k b cs' cs ty' ty hl' hX hl hb' hb).elim
  ·obtain⟨b0,_,hb0,_⟩:=h.loc k cs ty hl
   obtain ⟨b1,_,hb1,_⟩:=h.loc k' cs' ty' hl'
   have e:=he.1 _ _ hb0;rw[hb]at e;cases e
   have e:=he.1 _ _ hb1;rw[hb']at e;cases e
   exact h.inj k k' b cs cs' ty ty' hl hl' hb0 hb1
 ·exact h'.dom k (by rw[E1]at hk;omega)
 ·rcases hent k _ hk with hl|⟨hX,hl,hl'⟩
  ·exact h'.dead k hl
  ·have hd:=h.dead k hl
   have hh:(hide X lh)[k]? = some .hid:=by rw[hide_get,aby hX,hl];rfl
   rw [(he.2 k hh).2];exact hd
 ·have hh:(hide X lh)[k]? = some .hid:=by
   rw [hide_get];split
   ·rw[hk];rfl
   ·exact hk
  obtain ⟨h1,h2⟩:=he.2 k hh
  refine ⟨?_,h2⟩
  rw [uq];split
  ·rw[hk];simp[List.getD,h1]
  ·exact hk
theorem a7.hide {B:cY} {m:aF} {lh:List ao} {w:World} (h:a7 B m lh w) (X:List Nat) :
 a7 ⟨B.w0,w,fun b=>∃ k cs ty,k∉X/\lh[k]? = some (.cells cs ty)/\m k=some b,B.ds⟩ m (hide X lh) w:=by
 have hv:∀ k cs ty,(Sx.hide X lh)[k]? = some (.cells cs ty)->k∉X/\lh[k]? = some (.cells cs ty):=fun k cs ty hk=>by
  rw [hide_get]at hk;split at hk
  ·cases hl:lh[k]? <;> rw[hl]at hk<;>cases hk
  ·exact⟨by assumption,hk⟩
 refine ⟨rfl,rfl,rfl,h.size,h.old,aaS _,fun _ _ _=>rfl,fun k cs ty hk=>?_,fun k k' b cs cs' ty ty' h1 h2 hb hb'=>?_,fun k hk=>h.dom k (by rw[hide_length]at hk;exact hk),fun k hk=>?_,h.rng⟩
 ·obtain⟨hX,hl⟩:=hv k cs ty hk
  obtain ⟨b,vs,hb,hvs,hh,h1,_⟩:=h.loc k cs ty hl
  exact ⟨b,vs,hb,hvs,hh,h1,.inr ⟨k,cs,ty,hX,hl,hb⟩⟩
 ·exact h.inj k k' b cs cs' ty ty' (hv _ _ _ h1).2 (hv _ _ _ h2).2 hb hb'
 ·rw[hide_get]at hk;split at hk
  ·cases hl:lh[k]? <;> rw[hl]at hk<;>cases hk
  ·exact h.dead k hk
inductive Ec where
 |run (v:ak) (l:List ao)
 |skip
def om (w0:World) (S:FuncId->bH) (W:List Nat) (pl:Option Nat) (o:gS) (sl:List ak) (hl:List ao) (K:Ec->Prop):Prop :=
 match o.guard with
 |none=>cQ w0 S sl hl pl (fun v l=>jA W l hl/\K (.run v l)) o.op
 | some (d,want) =>
   match sl.getD d .any with
   |.bool b=>(b=want->cQ w0 S sl hl pl (fun v l=>jA W l hl/\K (.run v l)) o.op)/\(b=!want->K .skip)
   |.tup _=>K .skip
   |.int ..=>K .skip
   |_=>False
def ji (o:gS) (sl:List ak):Ec->List ak
 |.run v _=>eb sl o.dst v
 |.skip=>eb sl o.dst (.tup [])
def ka (W:List Nat) (lh:List ao):Ec->List ao
 |.run _ l=>mix W lh l
 |.skip=>lh
def Ma (w0:World) (S:FuncId->bH) (X W:List Nat) (pl:Option Nat) (o:gS) (sl:List ak) (lh:List ao) (K:List ak->List ao->Prop):Prop :=
 om w0 S W pl o sl (hide X lh) fun e=>K (ji o sl e) (ka W lh e)
section
variable {P:Program} {S:FuncId->bH} {W X:List Nat} {pl:Option Nat} {o:gS} {sl sl':List ak} {lh lh' hl:List ao} {w0:World}
theorem lT (hS:∀ f,(S f).Ok P f) {K K':Ec->Prop} (hk:∀ e,K e->K' e) (h:om w0 S W pl o sl hl K):om w0 S W pl o sl hl K':=by
 unfold om at *
 split
 ·rename_i hg;rw[hg]at h;exact dl hS (fun _ _ ⟨a,b⟩=>⟨a,hk _ b⟩) h
 ·rename_i d want hg
  rw [hg]at h
  dsimp only at h
  split at h
  ·exact⟨fun e=>dl hS (fun _ _ ⟨a,b⟩=>⟨a,hk _ b⟩) (h.1 e),fun e=>hk _ (h.2 e)⟩
  ·exact hk _ h
  ·exact hk _ h
  ·exact h.elim
theorem nn (hS:∀ f,(S f).Ok P f) {Q:Prop} (h:om w0 S W pl o sl hl fun _=>Q):Q:=by
 unfold om at h
 split at h
 ·exact mO hS (dl hS (K':=fun _ _=>Q) (fun _ _ ⟨_,b⟩=>b) h)
 ·rename_i d want hg
  split at h
  ·rename_i b _
   by_cases e:b=want
   ·exact mO hS (dl hS (K':=fun _ _=>Q) (fun _ _ ⟨_,b⟩=>b) (h.1 e))
   ·exact h.2 (by cases b<;>cases want<;>simp_all)
  ·exact h
  ·exact h
  ·exact h.elim
theorem BK (hd:Ob o.op=true):∃ d:Option Ec,∀ K,om w0 S W pl o sl hl K↔∃ e,d=some e/\K e:=by
 obtain ⟨d,hd⟩:=Af (w0:=w0) (S:=S) (sl:=sl) (lh:=hl) (pl:=pl) hd
 have hrun:∃ d':Option Ec,∀ K:Ec->Prop,cQ w0 S sl hl pl (fun v l=>jA W l hl/\K (.run v l)) o.op↔∃ e,d'=some e/\K e:=by
  cases d with
  |none=>exact⟨none,fun K=>(hd _).trans ⟨fun ⟨_,_,e,_⟩=>(by cases e),fun ⟨_,e,_⟩=>(by cases e)⟩⟩
  | some p =>
    obtain ⟨v,l⟩:=p
    by_cases hs:jA W l hl
    ·exact⟨some (.run v l),fun K=>(hd _).trans ⟨fun ⟨_,_,e,h⟩=>(by cases e;exact⟨_,rfl,h.2⟩),fun ⟨_,e,h⟩=>(by cases e;exact⟨v,l,rfl,hs,h⟩)⟩⟩
    ·exact⟨none,fun K=>(hd _).trans ⟨fun ⟨_,_,e,h⟩=>(by cases e;exact(hs h.1).elim),fun ⟨_,e,_⟩=>(by cases e)⟩⟩
 have hskip:∃ d':Option Ec,∀ K:Ec->Prop,K .skip↔∃ e,d'=some e/\K e:=⟨some .skip,fun K=>⟨fun h=>⟨_,rfl,h⟩,fun ⟨_,e,h⟩=>(by cases e;exact h)⟩⟩
 unfold om
 cases hg:o.guard with
 |none=>exact hrun
 | some g =>
   obtain ⟨t,want⟩:=g
   simp only
   cases hv:sl.getD t .any with
   | bool b =>
     simp only
     by_cases e:b=want
     ·obtain⟨d',h'⟩:=hrun
      refine ⟨d',fun K=>⟨fun h=>(h' K).1 (h.1 e),fun h=>⟨fun _=>(h' K).2 h,fun e'=>?_⟩⟩⟩
      have:=e.symm.trans e'
      cases want<;>cases this
     ·obtain⟨d',h'⟩:=hskip
      refine ⟨d',fun K=>⟨fun h=>(h' K).1 (h.2 (by clear h h';cases b<;>cases want<;>first|rfl|exact(e rfl).elim)),fun h=>⟨fun e'=>(e e').elim,fun _=>(h' K).2 h⟩⟩⟩
   |tup _=>exact hskip
   |int _ _=>exact hskip
   |_=>exact⟨none,fun K=>⟨fun h=>h.elim,fun ⟨_,e,_⟩=>(by cases e)⟩⟩
end
end Go.Sx
namespace Go.Sx
def kj.args:kj->List fi
 |.mov x|.box _ x|.ld x|.lds _ x|.nz x|.un _ x|.conv _ x|.fa _ x|.fld _ _ x|.len x|.lenT x|.ext x _|.isn _ x|.clr _ _ x=>[x]
 |.pick c a b=>[c,a,b]
 |.new ..|.lenA _|.mks ..=>[]
 |.agg _ ps|.bsl _ _ _ ps=>ps.map (·.2.2)
 |.st _ a x|.bin _ a x|.eqa _ _ a x|.eqb _ a x|.iaA _ _ a x|.iaS _ a x|.ixA _ _ _ a x|.ixS a x|.app _ _ _ _ a x=>[a,x]
 |.mkf _ xs ys=>xs++ys
 |.mm _ x xs=>x::xs
 |.slS _ x lo hi mx|.slA _ _ x lo hi mx=>x::(lo.toList++hi.toList++mx.toList)
 |.slT x lo hi=>x::(lo.toList++hi.toList)
 |.call _ xs=>xs
 |.callv x xs=>x::xs
def qK (xs:List fi):List Nat:=xs.filterMap fun|.t i=>some i|.k _=>none
def gS.reads (o:gS):List Nat:=qK o.op.args++(match o.guard with|some (d,_)=>[d]|none=>[])
section
variable {P:Program} {S:FuncId->bH} {W X:List Nat} {pl:Option Nat} {o:gS} {sl sl':List ak} {lh lh' hl:List ao} {w0:World}
theorem tU (ps:List (Nat×Nat×fi)) (K:List ak->Prop) (h:∀ x∈ps.map (·.2.2),arg sl x=arg sl' x):∀ z,parts sl ps z K=parts sl' ps z K:=by
 induction ps with
 |nil=>intro z;rfl
 | cons p ps ih =>
   intro z
   obtain ⟨off,n,x⟩:=p
   simp only [parts]
   rw [h x (by simp),ih (fun y hy=>h y (by simp at hy ⊢;exact .inr hy))]
theorem fP {xs:List fi} (h:∀ x∈xs,arg sl x=arg sl' x):xs.map (arg sl)=xs.map (arg sl'):=anf h
theorem dK {x:Option fi} (h:∀ y∈x.toList,arg sl y=arg sl' y):x.map (arg sl)=x.map (arg sl'):=by
 cases x with
 |none=>rfl
 |some x=>simp[h x (by simp)]
theorem oD {op:kj} {K:ak->List ao->Prop} (h:∀ x∈op.args,arg sl x=arg sl' x):cQ w0 S sl lh pl K op=cQ w0 S sl' lh pl K op:=by
 cases op<;>simp only[kj.args,ahG,ajR,or_false,arw,forall_eq,aqK]at h<;>simp only[cQ]
 case agg=>exact tU _ _ h _
 case bsl=>exact tU _ _ h _
 case mkf f xs ys=>rw[fP (fun x hx=>h x (.inl hx)),fP (fun x hx=>h x (.inr hx))]
 case mm=>rw[h.1,fP h.2]
 case slS esz x lo hi mx=>rw[h.1,dK (fun y hy=>h.2 y (.inl (.inl hy))),dK (fun y hy=>h.2 y (.inl (.inr hy))),dK (fun y hy=>h.2 y (.inr hy))]
 case slA n esz x lo hi mx=>rw[h.1,dK (fun y hy=>h.2 y (.inl (.inl hy))),dK (fun y hy=>h.2 y (.inl (.inr hy))),dK (fun y hy=>h.2 y (.inr hy))]
 case slT x lo hi=>rw[h.1,dK (fun y hy=>h.2 y (.inl hy)),dK (fun y hy=>h.2 y (.inr hy))]
 case call=>rw[fP h]
 case callv=>rw[h.1,fP h.2]
 all_goals first
  |rfl
  |rw[h]
  |rw[h.1,h.2]
  |rw[h.1,h.2.1,h.2.2]
theorem wx {K:Ec->Prop} (h:∀ t∈o.reads,sl.getD t .any=sl'.getD t .any):om w0 S W pl o sl hl K=om w0 S W pl o sl' hl K:=by
 have ha:∀ x∈o.op.args,arg sl x=arg sl' x:=fun x hx=>by
  cases x with
  |t i=>exact h i (apc _ (List.mem_filterMap.2 ⟨_,hx,rfl⟩))
  |k v=>rfl
 unfold om
 cases hg:o.guard with
 |none=>exact oD ha
 | some g =>
   obtain ⟨d,want⟩:=g
   simp only
   rw [h d (by simp[gS.reads,hg]),oD ha]
def nJ (x y:gS):Bool :=
 (match x.dst with|some d=>!y.reads.contains d&&y.dst != some d|none=>true)&&(match y.dst with|some d=>!x.reads.contains d|none=>true)
theorem oa {x y:gS} (h:nJ x y=true):(∀ d,x.dst=some d->d∉y.reads)/\(∀ d,x.dst=some d->y.dst≠some d)/\(∀ d,y.dst=some d->d∉x.reads):=by
 refine ⟨fun d hd=>?_,fun d hd=>?_,fun d hd=>?_⟩<;>simp[nJ,hd]at h
 ·exact h.1.1
 ·exact h.1.2
 ·exact h.2
theorem yI {d:Option Nat} {v:ak} {t:Nat} (h:d≠some t):(eb sl d v).getD t .any=sl.getD t .any:=by
 cases d with
 |none=>rfl
 | some d =>
   simp only [eb]
   rw [aqN,aaZ,aaT (fun e=>h (by rw[e])),← aqN]
theorem w6 {x:gS} {e:Ec} {t:Nat} (h:x.dst≠some t):(ji x sl e).getD t .any=sl.getD t .any:=by
 cases e<;>exact yI h
theorem wQ {e:Ec} (h:∀ k∈W,k∈X):hide X (ka W lh e)=hide X lh:=by
 cases e with
 |skip=>rfl
 | run v l =>
   apply agE; intro k
   rw [hide_get,hide_get]
   simp only [ka]
   rw [uq]
   by_cases hX:k∈X
   ·rw[aby hX,aby hX]
    split
    ·cases lh[k]? <;> rfl
    ·rfl
   ·rw[aaT hX,aaT hX,aaT (fun hW=>hX (h k hW))]
theorem sc {d d':Option Nat} {u v:ak} (h:∀ k,d=some k->d'≠some k):eb (eb sl d u) d' v=eb (eb sl d' v) d u:=by
 cases d with
 |none=>rfl
 | some d=>cases d' with
   |none=>rfl
   |some d'=>exact List.set_comm _ _ (fun e=>h d rfl (by rw[e]))
theorem ER {x y:gS} {e e':Ec} (h:∀ k,x.dst=some k->y.dst≠some k):ji y (ji x sl e) e'=ji x (ji y sl e') e:=by
 cases e<;>cases e'<;>exact sc h
theorem E3 {V:List Nat} {e e':Ec} (h:∀ k∈W,k∉V):ka V (ka W lh e) e'=ka W (ka V lh e') e:=by
 cases e with
 |skip=>rfl
 | run v l=>cases e' with
   |skip=>rfl
   | run v' l' =>
     apply agE; intro k
     simp only [ka,uq]
     by_cases hW:k∈W
     ·simp[hW,h k hW]
     ·simp[hW]
theorem apv (hS:∀ f,(S f).Ok P f) {x y:gS} {X' W':List Nat} {pl':Option Nat} (hap:nJ x y=true) (hdet:Ob x.op=true∨Ob y.op=true) (h1:∀ k∈W',k∈X) (h2:∀ k∈W,k∈X') (h3:∀ k∈W,k∉W')
 {K:List ak->List ao->Prop} (h:Ma w0 S X W pl x sl lh fun sl1 lh1=>Ma w0 S X' W' pl' y sl1 lh1 K):Ma w0 S X' W' pl' y sl lh fun sl1 lh1=>Ma w0 S X W pl x sl1 lh1 K:=by
 obtain ⟨a1,a2,a3⟩:=oa hap
 have loc1:∀ e (K:Ec->Prop),om w0 S W' pl' y (ji x sl e) (hide X' (ka W lh e)) K=om w0 S W' pl' y sl (hide X' lh) K:=fun e K=>by
  rw [wQ h2];exact wx fun t ht=>w6 (fun e=>a1 t e ht)
 have loc2:∀ e (K:Ec->Prop),om w0 S W pl x (ji y sl e) (hide X (ka W' lh e)) K=om w0 S W pl x sl (hide X lh) K:=fun e K=>by
  rw [wQ h1];exact wx fun t ht=>w6 (fun e=>a3 t e ht)
 have comm:∀ ex ey,K (ji y (ji x sl ex) ey) (ka W' (ka W lh ex) ey)↔K (ji x (ji y sl ey) ex) (ka W (ka W' lh ey) ex):=fun ex ey=>by
  rw [ER a2,E3 h3]
 unfold Ma at *
 simp only [loc1]at h
 simp only [loc2]
 rcases hdet with hd|hd
 ·obtain⟨d,hd⟩:=BK (w0:=w0) (S:=S) (W:=W) (pl:=pl) (sl:=sl) (hl:=hide X lh) hd
  obtain ⟨ex,hex,h⟩:=(hd _).1 h
  exact lT hS (fun ey hK=>(hd _).2 ⟨ex,hex,(comm ex ey).1 hK⟩) h
 ·obtain⟨d,hd⟩:=BK (w0:=w0) (S:=S) (W:=W') (pl:=pl') (sl:=sl) (hl:=hide X' lh) hd
  have hsome:∃ ey,d=some ey:=nn hS (lT hS (fun ex hy=>let ⟨ey,hey,_⟩:=(hd _).1 hy;⟨ey,hey⟩) h)
  obtain ⟨ey,hey⟩:=hsome
  refine (hd _).2 ⟨ey,hey,lT hS (fun ex hy=>?_) h⟩
  obtain ⟨ey',hey',hK⟩:=(hd _).1 hy
  rw [hey]at hey';cases hey'
  exact (comm ex ey).1 hK
theorem vA (hS:∀ f,(S f).Ok P f) {K K':List ak->List ao->Prop} (hk:∀ s l,K s l->K' s l) (h:Ma w0 S X W pl o sl lh K):Ma w0 S X W pl o sl lh K' :=
 lT hS (fun _=>hk _ _) h
end
inductive Da where
 |fresh (r:Nat)
 |slot (s:Nat)
 |load (s off:Nat)
structure gQ where
 o:gS
 rk:Option Nat
 un:List Nat
 ws:List Da
def isW:kj->Bool
 |.st ..|.app ..|.new ..|.box ..|.bsl ..|.mks ..|.clr ..=>true
 |_=>false
def wOf (Ws:List (List Nat)) (i:Nat):List Nat:=Ws.getD i []
def GT (Ws:List (List Nat)) (un:List Nat):List Nat:=un.flatMap (wOf Ws)
def Cw (w0:World) (S:FuncId->bH) (ds:List gQ) (Ws:List (List Nat)) (n0 i:Nat) (K:List ak->List ao->Prop) (sl:List ak) (lh:List ao):Prop :=
 match ds[i]? with
 |none=>K sl lh
 |some d=>Ma w0 S (GT Ws d.un) (wOf Ws i) (d.rk.map (n0+·)) d.o sl lh K
def FL (w0:World) (S:FuncId->bH) (ops:Array Oper) (ds:List gQ) (Ws:List (List Nat)) (n0:Nat) (K:List ak->List ao->Prop):Nat->Array Bool->List ak->List ao->Prop
 |0,listed,sl,lh=>Region.ready .any ops listed=[]/\K sl lh
 | fuel+1,listed,sl,lh=>(Region.ready .any ops listed=[]->K sl lh) /\
    ∀ i∈Region.ready .any ops listed,Cw w0 S ds Ws n0 i (FL w0 S ops ds Ws n0 K fuel (listed.setIfInBounds i true)) sl lh
def FV (ops:Array Oper):Nat->Nat->Nat->Bool
 |0,_,_=>false
 | f+1,j,i=>match ops[j]? with
   |some o=>o.after.toList.any fun e=>Region.binds .any e&&(e.on==i||FV ops f e.on i)
   |none=>false
def rm (ds:List gQ) (i j:Nat):Bool :=
 match ds[i]?,ds[j]? with
 |some x,some y=>nJ x.o y.o&&(Ob x.o.op||Ob y.o.op)&&(!isW y.o.op||x.un.contains j)&&(!isW x.o.op||y.un.contains i)
 |_,_=>false
def qz (ops:Array Oper) (ds:List gQ):Bool :=
 (List.range ds.length).all fun i=>(List.range ds.length).all fun j=>i==j||FV ops ds.length i j||FV ops ds.length j i||rm ds i j
def zw (ops:Array Oper):Nat->Nat->Array Bool->Bool
 |0,_,listed=>(Region.ready .any ops listed).isEmpty
 |f+1,k,listed=>(Region.ready .any ops listed).contains k&&zw ops f (k+1) (listed.setIfInBounds k true)
def KS (ds:List gQ) (Ws:List (List Nat)):Prop:=∀ (i:Nat) (d:gQ),ds[i]? = some d->(isW d.o.op=false->wOf Ws i=[])/\∀ k∈wOf Ws i,k∉GT Ws d.un
section
variable {P:Program} {S:FuncId->bH} {w0:World} {ops:Array Oper} {ds:List gQ} {Ws:List (List Nat)} {n0:Nat} {K:List ak->List ao->Prop}
def fA (ops:Array Oper) (listed:Array Bool):Prop:=∀ k o,listed.getD k false=true->ops[k]? = some o->∀ e∈o.after,Region.binds .any e=true->listed.getD e.on false=true
theorem eK {listed:Array Bool} (hc:fA ops listed) {i:Nat}:∀ (f j:Nat) (o:Oper),ops[j]? = some o->(∀ e∈o.after,Region.binds .any e=true->listed.getD e.on false=true)->FV ops f j i=true->listed.getD i false=true
 |0,_,_,_,_,h=>by simp[FV]at h
 | f+1,j,o,ho,hall,h=>by
   simp only [FV,ho,List.any_eq_true,aaw,ajQ,ajU]at h
   obtain ⟨e,he,hb,h⟩:=h
   have he':e∈o.after:=by simpa using he
   have hl:=hall e he' hb
   rcases h with rfl|h
   ·exact hl
   ·cases ho':ops[e.on]? with
    |none=>cases f<;>simp[FV,ho']at h
    |some o'=>exact eK hc f e.on o' ho' (fun e' he' hb'=>hc e.on o' hl ho' e' he' hb') h
theorem eO {listed:Array Bool} (hc:fA ops listed) {i:Nat} (hi:i∈Region.ready .any ops listed):fA ops (listed.setIfInBounds i true):=by
 intro k o hk ho e he hb
 obtain ⟨_,oi,hoi,hall⟩:=mem_ready.1 hi
 by_cases hki:i=k
 ·subst hki
  rw [hoi]at ho;cases ho
  exact getD_set_true (hall e he hb)
 ·exact getD_set_true (hc k o (by rwa [getD_set_ne false hki]at hk) ho e he hb)
theorem HN (hok:KS ds Ws) {j:Nat} {x y:gQ} (hy:ds[j]? = some y) (h:(!isW y.o.op||x.un.contains j)=true):∀ k∈wOf Ws j,k∈GT Ws x.un:=by
 intro k hk
 cases hw:isW y.o.op with
 | true =>
   simp [hw]at h
   exact List.mem_flatMap.2 ⟨j,h,hk⟩
 |false=>rw[(hok j y hy).1 hw]at hk;cases hk
theorem vU (hS:∀ f,(S f).Ok P f) {i:Nat} {K K':List ak->List ao->Prop} (hk:∀ s l,K s l->K' s l) {sl:List ak} {lh:List ao} (h:Cw w0 S ds Ws n0 i K sl lh):Cw w0 S ds Ws n0 i K' sl lh:=by
 unfold Cw at *
 split at h
 ·exact hk _ _ h
 ·exact vA hS hk h
theorem Od (hS:∀ f,(S f).Ok P f) (hw:KS ds Ws) {i j:Nat} (hg:rm ds i j=true) {K:List ak->List ao->Prop} {sl:List ak} {lh:List ao}
 (h:Cw w0 S ds Ws n0 i (Cw w0 S ds Ws n0 j K) sl lh):Cw w0 S ds Ws n0 j (Cw w0 S ds Ws n0 i K) sl lh:=by
 unfold rm at hg
 split at hg
 ·rename_i x y hx hy
  simp only [aaw]at hg
  obtain ⟨⟨⟨g1,g2⟩,g3⟩,g4⟩:=hg
  unfold Cw at h ⊢
  simp only [hx,hy]at h ⊢
  have s1:=HN (x:=x) hw hy g3
  have s2:=HN (x:=y) hw hx g4
  exact apv hS g1 (by simpa using g2) s1 s2 (fun k hk hk'=>(hw i x hx).2 k hk (s1 k hk')) h
 ·cases hg
theorem EL (hS:∀ f,(S f).Ok P f) (hw:KS ds Ws) (hp:qz ops ds=true) (hlen:ds.length=ops.size) {i:Nat}:∀ (fuel:Nat) (listed:Array Bool) (sl:List ak) (lh:List ao),fA ops listed->i∈Region.ready .any ops listed ->
 Cw w0 S ds Ws n0 i (FL w0 S ops ds Ws n0 K fuel (listed.setIfInBounds i true)) sl lh->FL w0 S ops ds Ws n0 K (fuel+1) listed sl lh:=by
 have good:∀ (listed:Array Bool) (j:Nat),fA ops listed->i∈Region.ready .any ops listed->j∈Region.ready .any ops listed->j≠i->rm ds i j=true:=fun listed j hc hi hj hne=>by
  obtain ⟨ui,oi,hoi,ai⟩:=mem_ready.1 hi
  obtain ⟨uj,oj,hoj,aj⟩:=mem_ready.1 hj
  have li:i<ds.length:=by rw[hlen];exact(Array.getElem?_eq_some_iff.1 hoi).1
  have lj:j<ds.length:=by rw[hlen];exact(Array.getElem?_eq_some_iff.1 hoj).1
  simp only [qz,anT,List.mem_range]at hp
  have:=hp i li j lj
  simp only [ajQ,ajU]at this
  have no:∀ {x:Nat},listed.getD x true=false->listed.getD x false=true->False:=fun {x} h1 h2=>by
   rcases aqb x listed.size with h|h
   ·simp[h]at h1 h2;rw[h1]at h2;cases h2
   ·simp[apD h]at h1
  rcases this with ((h|h)|h)|h
  ·exact(hne h.symm).elim
  ·exact(no uj (eK hc _ i oi hoi ai h)).elim
  ·exact(no ui (eK hc _ j oj hoj aj h)).elim
  ·exact h
 intro fuel
 induction fuel with
 | zero =>
   intro listed sl lh hc hi H
   refine ⟨fun h=>(by rw[h]at hi;cases hi),fun j hj=>?_⟩
   by_cases hji:j=i
   ·subst hji;exact H
   ·exfalso
    have hr:=ready_mono hj hji
    have hnil:Region.ready .any ops (listed.setIfInBounds i true)=[]:=by
     have:Cw w0 S ds Ws n0 i (fun _ _=>Region.ready .any ops (listed.setIfInBounds i true)=[]) sl lh:=vU hS (fun _ _ h=>h.1) H
     unfold Cw at this
     split at this
     ·exact this
     ·exact nn hS this
    rw [hnil]at hr;cases hr
 | succ fuel ih =>
   intro listed sl lh hc hi H
   refine ⟨fun h=>(by rw[h]at hi;cases hi),fun j hj=>?_⟩
   by_cases hji:j=i
   ·subst hji;exact H
   ·have h1:Cw w0 S ds Ws n0 i (Cw w0 S ds Ws n0 j (FL w0 S ops ds Ws n0 K fuel ((listed.setIfInBounds i true).setIfInBounds j true))) sl lh :=
     vU hS (fun s l h=>h.2 j (ready_mono hj hji)) H
    have h2:=Od hS hw (good listed j hc hi hj hji) h1
    refine vU hS (fun s l h=>ih _ s l (eO hc hj) (ready_mono hi (Ne.symm hji)) ?_) h2
    rw [arp _ _ hji]
    exact h
def jc (w0:World) (S:FuncId->bH) (Ws:List (List Nat)) (n0:Nat) (K:List ak->List ao->Prop):List gQ->Nat->List ak->List ao->Prop
 |[],_,sl,lh=>K sl lh
 |d::rest,i,sl,lh=>Ma w0 S (GT Ws d.un) (wOf Ws i) (d.rk.map (n0+·)) d.o sl lh (jc w0 S Ws n0 K rest (i+1))
theorem mt (hS:∀ f,(S f).Ok P f) (hw:KS ds Ws) (hp:qz ops ds=true) (hlen:ds.length=ops.size):∀ (l:List gQ) (k:Nat) (listed:Array Bool) (sl:List ak) (lh:List ao),(∀ j,l[j]? = ds[k+j]?) ->
 zw ops l.length k listed=true->fA ops listed->jc w0 S Ws n0 K l k sl lh->FL w0 S ops ds Ws n0 K l.length listed sl lh
 |[],_,_,_,_,_,hB,_,h=>⟨by simpa[zw] using hB,h⟩
 | d::l,k,listed,sl,lh,hl,hB,hc,h=>by
   have h0:ds[k]? = some d:=by simpa using(hl 0).symm
   simp only [adM,zw,aaw]at hB
   obtain ⟨hr,hB'⟩:=hB
   have hr':k∈Region.ready .any ops listed:=by simpa using hr
   refine EL hS hw hp hlen l.length listed sl lh hc hr' ?_
   unfold Cw
   simp only [h0]
   refine vA hS (fun s l' h=>?_) h
   exact mt hS hw hp hlen l (k+1) _ s l' (fun j=>by have:=hl (j+1);simpa[aoY,ari 1 j] using this) hB' (eO hc hr') h
end
end Go.Sx
namespace Go.Sx
mutual
def ren (τ:Nat->Nat):ak->ak
 |.ptr (some (.l k off))=>.ptr (some (.l (τ k) off))
 |.slice (some (.l k off)) n c=>.slice (some (.l (τ k) off)) n c
 |.fn f xs ys=>.fn f (wy τ xs) (wy τ ys)
 |.agg cs=>.agg (wy τ cs)
 |.tup cs=>.tup (wy τ cs)
 |a=>a
def wy (τ:Nat->Nat):List ak->List ak
 |[]=>[]
 |a::l=>ren τ a::wy τ l
end
mutual
def kl (p:Nat->Prop):ak->Prop
 |.ptr (some (.l k _))=>p k
 |.slice (some (.l k _)) _ _=>p k
 |.fn _ xs ys=>iX p xs/\iX p ys
 |.agg cs=>iX p cs
 |.tup cs=>iX p cs
 |_=>True
def iX (p:Nat->Prop):List ak->Prop
 |[]=>True
 |a::l=>kl p a/\iX p l
end
mutual
theorem Cp {m m1:aF} {τ:Nat->Nat} {p:Nat->Prop} (h:∀ k b,p k->m (τ k)=some b->m1 k=some b):∀ (a:ak) (v:Value),kl p a->vrel m (ren τ a) v->vrel m1 a v
 |.int ..,_,_,hv=>by simp only[ren,vrel]at hv ⊢;exact hv
 |.bool ..,_,_,hv=>by simp only[ren,vrel]at hv ⊢;exact hv
 |.str ..,_,_,hv=>by simp only[ren,vrel]at hv ⊢;exact hv
 |.ptr none,_,_,hv=>by simp only[ren,vrel,dC]at hv ⊢;exact hv
 |.ptr (some (.g _)),_,_,hv=>by simp only[ren,vrel,dC]at hv ⊢;exact hv
 | .ptr (some (.l k off)),_,hp,hv=>by
   simp only [kl]at hp
   simp only [ren,vrel,dC]at hv ⊢
   obtain ⟨q,h1,b,h2,h3⟩:=hv
   exact ⟨q,h1,b,h k b hp h2,h3⟩
 |.slice none _ _,_,_,hv=>by simp only[ren,vrel,dC]at hv ⊢;exact hv
 |.slice (some (.g _)) _ _,_,_,hv=>by simp only[ren,vrel,dC]at hv ⊢;exact hv
 | .slice (some (.l k off)) _ _,_,hp,hv=>by
   simp only [kl]at hp
   simp only [ren,vrel,dC]at hv ⊢
   obtain ⟨q,h1,b,h2,h3⟩:=hv
   exact ⟨q,h1,b,h k b hp h2,h3⟩
 | .fn _ xs ys,_,hp,hv=>by
   simp only [kl]at hp
   simp only [ren,vrel]at hv ⊢;obtain⟨us,vs,h1,h2,h3⟩:=hv;exact⟨us,vs,h1,lR h xs _ hp.1 h2,lR h ys _ hp.2 h3⟩
 |.agg cs,_,hp,hv=>by simp only[kl]at hp;simp only[ren,vrel]at hv ⊢;obtain⟨vs,h1,h2⟩:=hv;exact⟨vs,h1,lR h cs _ hp h2⟩
 |.tup cs,_,hp,hv=>by simp only[kl]at hp;simp only[ren,vrel]at hv ⊢;obtain⟨vs,h1,h2⟩:=hv;exact⟨vs,h1,lR h cs _ hp h2⟩
 |.raw _,_,_,hv=>by simp only[ren,vrel]at hv ⊢;exact hv
 |.any,_,_,_=>by simp only[vrel]
theorem lR {m m1:aF} {τ:Nat->Nat} {p:Nat->Prop} (h:∀ k b,p k->m (τ k)=some b->m1 k=some b):∀ (az:List ak) (vs:List Value),iX p az->ar m (wy τ az) vs->ar m1 az vs
 |[],_,_,hv=>by simp only[wy,ar]at hv ⊢;exact hv
 | a::az,_,hp,hv=>by
   simp only [iX]at hp
   simp only [wy,ar]at hv ⊢;obtain⟨u,us,h1,h2,h3⟩:=hv;exact⟨u,us,h1,Cp h a u hp.1 h2,lR h az us hp.2 h3⟩
end
def lH:List ak->List ak->Prop
 |[],[]=>True
 |a::l,a'::l'=>(a=.any∨a'=a)/\lH l l'
 |_,_=>False
theorem yu {m:aF}:∀ {l l':List ak} {vs:List Value},lH l l'->ar m l' vs->ar m l vs
 |[],[],_,_,h=>h
 | a::l,a'::l',vs,hs,h=>by
   simp only [lH]at hs
   simp only [ar]at h ⊢
   obtain ⟨u,us,rfl,h1,h2⟩:=h
   refine ⟨u,us,rfl,?_,yu hs.2 h2⟩
   rcases hs.1 with rfl|rfl
   ·simp only[vrel]
   ·exact h1
 |[],_::_,_,h,_=>by simp[lH]at h
 |_::_,[],_,h,_=>by simp[lH]at h
def ln (p:Nat->Prop) (τ:Nat->Nat):List ak->List ak->Prop
 |[],[]=>True
 |a::l,a'::l'=>(a=.any∨(kl p a/\a'=ren τ a))/\ln p τ l l'
 |_,_=>False
theorem pZ {m m1:aF} {p:Nat->Prop} {τ:Nat->Nat} (hm:∀ k b,p k->m (τ k)=some b->m1 k=some b):∀ {l l':List ak} {vs:List Value},ln p τ l l'->ar m l' vs->ar m1 l vs
 |[],[],_,_,h=>by simp only[ar]at h ⊢;exact h
 | a::l,a'::l',vs,hs,h=>by
   simp only [ln]at hs
   simp only [ar]at h ⊢
   obtain ⟨u,us,rfl,h1,h2⟩:=h
   refine ⟨u,us,rfl,?_,pZ hm hs.2 h2⟩
   rcases hs.1 with rfl|⟨h3,rfl⟩
   ·simp only[vrel]
   ·exact Cp hm a u h3 h1
 |[],_::_,_,h,_=>by simp[ln]at h
 |_::_,[],_,h,_=>by simp[ln]at h
def isCells:Option ao->Bool
 |some (.cells ..)=>true
 |_=>false
def Ux (nb:Nat) (lh:List ao) (k:Nat):Prop:=k<nb∨isCells lh[k]? = true
structure aqQ (nb:Nat) (τ:Nat->Nat) (sl:List ak) (lh:List ao) (sl1:List ak) (lh1:List ao):Prop where
 fix:∀ k,k<nb->τ k=k
 len:nb<=lh1.length
 same:∀ k,k<nb->isCells lh1[k]? = false->lh1[k]? = lh[k]?
 slots:ln (Ux nb lh1) τ sl1 sl
 heap:∀ k cs ty,lh1[k]? = some (.cells cs ty)->∃ cs',lh[τ k]? = some (.cells cs' ty)/\ln (Ux nb lh1) τ cs cs'
 inj:∀ k k',isCells lh1[k]? = true->isCells lh1[k']? = true->τ k=τ k'->k=k'
def Sub (nb:Nat) (sl:List ak) (lh:List ao) (sl1:List ak) (lh1:List ao):Prop:=(lh1=lh/\lH sl1 sl)∨∃ τ,aqQ nb τ sl lh sl1 lh1
def nf (nb:Nat) (lh:List ao) (m:aF) (lh':List ao) (m':aF):Prop :=
 (∀ k b,k < nb->m k=some b->m' k=some b)/\∀ k,k < nb->lh[k]? = some .hid->lh'[k]? = some .hid/\m' k=m k
theorem nf.refl (nb:Nat) (lh:List ao) (m:aF):nf nb lh m lh m:=⟨fun _ _ _ h=>h,fun _ _ h=>⟨h,rfl⟩⟩
theorem nf.trans {nb:Nat} {l1 l2 l3:List ao} {m1 m2 m3:aF} (h:nf nb l1 m1 l2 m2) (k:nf nb l2 m2 l3 m3):nf nb l1 m1 l3 m3 :=
 ⟨fun j b hj hb=>k.1 j b hj (h.1 j b hj hb),fun j hj hl=>⟨(k.2 j hj (h.2 j hj hl).1).1,((k.2 j hj (h.2 j hj hl).1).2).trans (h.2 j hj hl).2⟩⟩
theorem hG.toN {lh lh':List ao} {m m':aF} (h:hG lh m lh' m') (nb:Nat):nf nb lh m lh' m':=⟨fun k b _ hb=>h.1 k b hb,fun k _ hl=>h.2 k hl⟩
section
variable {B:cY}
theorem Sub.rel {nb:Nat} {m:aF} {sl sl1:List ak} {lh lh1:List ao} {a:Act} {w:World} (hs:Sub nb sl lh sl1 lh1) (h:iT B m sl lh a w) :
 ∃ m1,iT B m1 sl1 lh1 a w/\nf nb lh m lh1 m1:=by
 rcases hs with ⟨rfl,hs⟩|⟨τ,hs⟩
 ·exact⟨m,⟨yu hs h.1,h.2.1,h.2.2⟩,nf.refl _ _ _⟩
 ·let m1 : aF:=fun k=>if k<nb then m k else if isCells lh1[k]? then m (τ k) else none
  have hm:∀ k b,Ux nb lh1 k->m (τ k)=some b->m1 k=some b:=fun k b hk hb=>by
   simp only [m1]
   split
   ·rename_i hlt;rw[hs.fix k hlt]at hb;exact hb
   ·rename_i hlt
    rcases hk with hk|hk
    ·exact(hlt hk).elim
    ·rw[aby hk];exact hb
  have hm':∀ k b,m1 k=some b->m (τ k)=some b:=fun k b hb=>by
   simp only [m1]at hb
   split at hb
   ·rename_i hlt;rw[hs.fix k hlt];exact hb
   ·split at hb
    ·exact hb
    ·cases hb
  obtain ⟨h1,h2,h3⟩:=h
  refine ⟨m1,⟨pZ hm hs.slots h1,h2,⟨h3.os,h3.tape,h3.output,h3.size,h3.old,h3.fsize,h3.kept,fun k cs ty hk=>?_,fun k k' b cs cs' ty ty' g1 g2 hb hb'=>?_,fun k hk=>?_,fun k hk=>?_,fun k b hk=>h3.rng _ b (hm' k b hk)⟩⟩,fun k b hk hb=>?_,fun k hk hl=>?_⟩
  ·obtain⟨cs',hl,hsub⟩:=hs.heap k cs ty hk
   obtain ⟨b,vs,hb,hvs,hh,hx⟩:=h3.loc (τ k) cs' ty hl
   exact ⟨b,vs,hm k b (.inr (by rw[hk];rfl)) hb,pZ hm hsub hvs,hh,hx⟩
  ·obtain⟨c1,hl1,_⟩:=hs.heap k cs ty g1
   obtain ⟨c2,hl2,_⟩:=hs.heap k' cs' ty' g2
   exact hs.inj k k' (by rw[g1];rfl) (by rw[g2];rfl) (h3.inj _ _ b c1 c2 ty ty' hl1 hl2 (hm' k b hb) (hm' k' b hb'))
  ·have hn:¬ k<nb:=by have:=hs.len;omega
   simp only [m1];rw[aaT hn,abm hk];rfl
  ·simp only [m1]
   split
   ·rename_i hlt
    have:=hs.same k hlt (by rw[hk];rfl)
    exact h3.dead k (by rw[← this];exact hk)
   ·rw[hk];rfl
  ·simp only[m1];rw[aby hk];exact hb
  ·have hc:isCells lh1[k]? = false:=by
    cases hc:isCells lh1[k]? with
    |false=>rfl
    | true =>
      exfalso
      generalize hg:lh1[k]? = g at hc
      cases g with
      |none=>cases hc
      | some ob=>cases ob with
        | cells cs ty =>
          obtain ⟨cs',hl',_⟩:=hs.heap k cs ty hg
          rw [hs.fix k hk,hl]at hl';cases hl'
        |_=>cases hc
   exact ⟨by rw[hs.same k hk hc];exact hl,by simp only[m1];rw[aby hk]⟩
end
def abX:kj->Bool
 |.new ..|.box ..|.bsl ..|.app ..|.mks ..=>true
 |_=>false
def wT:ak->List Nat
 |.ptr (some (.l k _))=>[k]
 |.slice (some (.l k _)) _ _=>[k]
 |_=>[]
def look (xs : List gS) (rks:List (Option Nat)):Nat->Nat->fi->List Da
 |0,_,_=>[]
 |_+1,_,.k _=>[]
 | f + 1, n, .t s=>match (xs.take n).findIdx? (fun x=>x.dst==some s) with
   |none=>[.slot s]
   | some i => match xs[i]? with
     |none=>[]
     | some x=>match x.op with
       |.new ..|.box ..|.bsl ..|.mks ..=>(match rks.getD i none with|some r=>[.fresh r]|none=>[])
       |.fa _ a|.iaA _ _ a _|.iaS _ a _|.nz a|.mov a|.slS _ a ..=>look xs rks f i a
       |.app _ _ _ _ a _=>look xs rks f i a++(match rks.getD i none with|some r=>[.fresh r]|none=>[])
       | .ld (.t p)=>match (xs.take i).findIdx? (fun x=>x.dst==some p) with
         |none=>[.load p 0]
         | some j=>match xs[j]? with
           | some y=>match y.op with
             |.fa off (.t q)=>[.load q off]
             |_=>[]
           |none=>[]
       |_=>[]
def Wd (w0:World) (lh:List ao) (sl:List ak) (n0:Nat):Da->List Nat
 |.fresh r=>[n0+r]
 |.slot s=>wT (sl.getD s .any)
 | .load s off=>match sl.getD s .any with
   | .ptr (some p)=>match ld w0 lh (p.add off) with
     |some v=>wT v
     |none=>[]
   |_=>[]
def tf (w0:World) (lh:List ao) (sl:List ak) (n0:Nat):List Da->List Nat
 |[]=>[]
 |x::l=>Wd w0 lh sl n0 x++tf w0 lh sl n0 l
def kC (w0:World) (lh:List ao) (sl:List ak) (n0:Nat):List gQ->List (List Nat)
 |[]=>[]
 |d::l=>tf w0 lh sl n0 d.ws::kC w0 lh sl n0 l
theorem oS (w0:World) (lh:List ao) (sl:List ak) (n0:Nat):∀ (l:List gQ) (i:Nat),(kC w0 lh sl n0 l).getD i []=match l[i]? with|some d=>tf w0 lh sl n0 d.ws|none=>[]
 |[],i=>by simp[kC]
 |d::l,0=>by simp[kC]
 |d::l,i+1=>by simp only[kC,acx];rw[← oS w0 lh sl n0 l i];simp[List.getD]
def Jq (k:Nat):List Nat->Prop
 |[]=>True
 |x::l=>k≠x/\Jq k l
def SQ:List Nat->List Nat->Prop
 |[],_=>True
 |k::l,X=>Jq k X/\SQ l X
theorem y5 {k:Nat}:∀ {l:List Nat},Jq k l->k∉l
 |[],_=>by simp
 |x::l,h=>by simp only[Jq]at h;simp only[ahG,not_or];exact⟨h.1,y5 h.2⟩
theorem Cv:∀ {l X:List Nat},SQ l X->∀ k∈l,k∉X
 |[],_,_,k,hk=>by cases hk
 | x::l,X,h,k,hk=>by
   simp only [SQ]at h
   rcases List.mem_cons.1 hk with rfl|hk
   ·exact y5 h.1
   ·exact Cv h.2 k hk
def DF (Ws:List (List Nat)):List gQ->Nat->Prop
 |[],_=>True
 |d::l,i=>SQ (wOf Ws i) (GT Ws d.un)/\DF Ws l (i+1)
theorem nE {ds:List gQ} {Ws:List (List Nat)}:∀ (l:List gQ) (k:Nat),(∀ j,l[j]? = ds[k+j]?)->DF Ws l k->∀ (i:Nat) (d:gQ),ds[k+i]? = some d->∀ x∈wOf Ws (k+i),x∉GT Ws d.un
 |[],k,hl,_,i,d,hd=>by have:=hl i;rw[hd]at this;simp at this
 | e :: l,k,hl,h,i,d,hd=>by
   simp only [DF]at h
   cases i with
   | zero =>
     have h0:=hl 0
     simp only [ajZ]at hd h0 ⊢
     rw [hd]at h0;simp at h0;subst h0
     exact Cv h.1
   | succ i =>
     have:=nE l (k+1) (fun j=>by have:=hl (j+1);simpa[aoY,ari 1 j] using this) h.2 i d (by rw[show k+1+i=k+(i+1) from by omega];exact hd)
     rw [show k+1+i=k+(i+1) from by omega]at this
     exact this
def Rx (ds:List gQ):Nat:=(ds.filter fun d=>abX d.o.op).length
def mr (w0:World) (S:FuncId->bH) (ds:List gQ) (sl:List ak) (lh:List ao) (K:List ak->List ao->Prop):Prop :=
 DF (kC w0 lh sl lh.length ds) ds 0/\jc w0 S (kC w0 lh sl lh.length ds) lh.length K ds 0 sl (lh++List.replicate (Rx ds) .dead)
def cm:List gS->Nat->List (Option Nat)
 |[],_=>[]
 |x::l,r=>if abX x.op then some r::cm l (r+1) else none::cm l r
def gD (ops:Array Oper) (xs:List gS) (rks:List (Option Nat)):List gS->Nat->List gQ
 |[],_=>[]
 | x::l,i=>⟨x,rks.getD i none,(List.range xs.length).filter fun j=>j != i&&(match xs[j]? with|some y=>isW y.op|none=>false)&&!FV ops xs.length i j&&!FV ops xs.length j i,
    match x.op with
    |.new ..|.box ..|.bsl ..|.mks ..=>(match rks.getD i none with|some r=>[.fresh r]|none=>[])
    |.st _ a _=>look xs rks 8 i a
    |.clr _ _ a=>look xs rks 8 i a
    |.app _ _ _ _ a _=>look xs rks 8 i a++(match rks.getD i none with|some r=>[.fresh r]|none=>[])
    |_=>[]⟩::gD ops xs rks l (i+1)
def qw (P:Program) (eqs:List TypeId) (ops:Array Oper):Option (List gQ) :=
 match eM P eqs ops ops.toList with
 |none=>none
 | some xs =>
   if P.follows .mixedOrders&&qz ops (gD ops xs (cm xs 0) xs 0)&&zw ops (gD ops xs (cm xs 0) xs 0).length 0 (Array.replicate ops.size false)&&(gD ops xs (cm xs 0) xs 0).length==ops.size &&
    (gD ops xs (cm xs 0) xs 0).all (fun d=>isW d.o.op||d.ws.isEmpty) then some (gD ops xs (cm xs 0) xs 0) else none
theorem xh (ops:Array Oper) (xs:List gS) (rks:List (Option Nat)):∀ (l:List gS) (i j:Nat),(gD ops xs rks l i)[j]?.map gQ.o=l[j]?
 |[],_,_=>by simp[gD]
 |x::l,i,0=>by simp[gD]
 |x::l,i,j+1=>by simp only[gD,acx];exact xh ops xs rks l _ j
section
variable {P:Program} {B:cY} {S:FuncId->bH} {eqs:List TypeId} {F:Fence} {n:Nat} {ops:Array Oper} {ds:List gQ} {Ws:List (List Nat)}
theorem kv:∀ (l:List Oper) (xs:List gS) (j:Nat) (o:Oper),eM P eqs ops l=some xs->l[j]? = some o->∃ x,xs[j]? = some x/\kd P eqs ops o=some x
 |[],_,_,_,_,h=>by simp at h
 | a::l,xs,j,o,hc,h=>by
   simp only [eM]at hc
   split at hc
   ·rename_i x xs' hx hxs
    cases hc
    cases j with
    |zero=>simp at h;subst h;exact⟨x,rfl,hx⟩
    |succ j=>exact kv l xs' j o hxs (by simpa using h)
   ·cases hc
theorem yS (hF:jU F) (hS:∀ f,(S f).Ok P f) (hE:∀ t∈eqs,cU P t) {X W:List Nat} {pl:Option Nat} {o:Oper} {x:gS} {i:Nat} (ho:ops[i]? = some o) (hx:kd P eqs ops o=some x)
 {K:List ak->List ao->Prop} {K':Act->World->Prop} {Q:Exit->Act->World->Prop} {sl:List ak} {lh:List ao} {m:aF} {a:Act} {w:World} (hs:iT B m sl lh a w) (h:Ma B.w0 S X W pl x sl lh K)
 (hK:∀ sl' lh' m' a' w',iT B m' sl' lh' a' w'->hG lh m lh' m'->K sl' lh'->K' a' w'):wpOpIn F n P ops Q i K' a w:=by
 have hSS:∀ f,(S f).Sound P f:=fun f=>(hS f).sound
 have run:∀ {j:kj} (hj:g9 P eqs o=some j),x.op=j->x.dst=o.dst->cQ B.w0 S sl (hide X lh) pl (fun v l=>jA W l (hide X lh)/\K (ji x sl (.run v l)) (ka W lh (.run v l))) j ->
  o.wpIn F n P a w K' Q:=fun {j} hj e1 e2 hv=>by
  have hres:=oL (B:=⟨B.w0,w,fun b=>∃ k cs ty,k∉X/\lh[k]? = some (.cells cs ty)/\m k=some b,B.ds⟩) hSS hE hj hs.1 (hs.2.2.hide X) hv
  refine iw hF hj hres fun v w' ⟨r,m',lh',h1,h2,h3,h4,h5⟩=>?_
  obtain ⟨g1,g2⟩:=hs.2.2.unhide h3 h2 h4
  simp only [ji,e2]at h5
  exact hK _ _ m' _ _ (hs.put g2.1 g1 o.dst h1) g2 h5
 have skip:∀ (e2:x.dst=o.dst),K (ji x sl .skip) lh->K' (a.put o.dst undef) w:=fun e2 hk=>by
  simp only [ji,e2]at hk
  exact hK _ _ m _ _ (hs.put (aF.le_refl m) hs.2.2 o.dst (by simp[vrel,ar,undef])) (hG.refl _ _) hk
 unfold wpOpIn
 simp only [ho]
 unfold Ma om at h
 unfold kd at hx
 split at hx
 ·rename_i j hj hg
  cases hx
  dsimp only at h
  rw [aby (by simp[Region.wanted,hg])]
  exact run hj rfl rfl h
 ·rename_i j jg want hj hg
  split at hx
  ·rename_i d hd
   cases hx
   dsimp only at h
   obtain ⟨y1,y2,y3⟩:=yai (ops:=ops) hs.1 hd
   split at h
   ·rename_i b hb
    have hy:=y1 b hb
    by_cases hbw:b=want
    ·subst hbw
     rw [aby (by simp[Region.wanted,hg,hy])]
     exact run hj rfl rfl (h.1 rfl)
    ·rw[aaT (by simp[Region.wanted,hg,hy,hbw])]
     exact ⟨fun f _=>hF.fn f,skip rfl (h.2 (by cases b<;>cases want<;>simp_all))⟩
   ·rename_i vs hb
    rw [aaT (by simp[Region.wanted,hg,y2 _ hb])]
    exact ⟨fun f _=>hF.fn f,skip rfl h⟩
   ·rename_i hb
    rw [aaT (by simp[Region.wanted,hg,y3 _ _ hb])]
    exact ⟨fun f _=>hF.fn f,skip rfl h⟩
   ·exact h.elim
  ·cases hx
 ·cases hx
theorem wP (hF:jU F) (hS:∀ f,(S f).Ok P f) (hE:∀ t∈eqs,cU P t) {n0:Nat} {xs:List gS} (hc:eM P eqs ops ops.toList=some xs) (hd:∀ j:Nat,ds[j]?.map gQ.o=xs[j]?)
 {K:List ak->List ao->Prop} {Q:Exit->Act->World->Prop} {lh0:List ao} {m0:aF} (hQ:∀ sl' lh' m' a' w',iT B m' sl' lh' a' w'->hG lh0 m0 lh' m'->K sl' lh'->Q .normal a' w') :
 ∀ (fuel:Nat) (listed:Array Bool) (sl:List ak) (lh:List ao) (m:aF) (a:Act) (w:World),iT B m sl lh a w->hG lh0 m0 lh m->FL B.w0 S ops ds Ws n0 K fuel listed sl lh->wpAnyIn F n P .any ops Q fuel listed a w
 |0,_,_,_,_,_,_,hs,he,h=>⟨h.1,hQ _ _ _ _ _ hs he h.2⟩
 | fuel+1,listed,sl,lh,m,a,w,hs,he,h=>by
   refine ⟨fun hr=>hQ _ _ _ _ _ hs he (h.1 hr),fun i hi=>?_⟩
   have h2:=h.2 i hi
   obtain ⟨_,o,ho,_⟩:=mem_ready.1 hi
   obtain ⟨x,hx,hco⟩:=kv ops.toList xs i o hc (by simpa using ho)
   have hdi:=hd i
   rw [hx]at hdi
   simp only [aaD]at hdi
   obtain ⟨d,hd1,hd2⟩:=hdi
   unfold Cw at h2
   simp only [hd1]at h2
   rw [hd2]at h2
   exact yS hF hS hE ho hco hs h2 fun sl' lh' m' a' w' h3 h4 h5=>wP hF hS hE hc hd hQ fuel _ sl' lh' m' a' w' h3 (he.trans h4) h5
theorem a7.deads {m:aF} {lh:List ao} {w:World} (h:a7 B m lh w) (k:Nat):a7 B m (lh++List.replicate k .dead) w:=by
 have hg:∀ j o,(lh++List.replicate k ao.dead)[j]? = some o->lh[j]? = some o∨(lh.length<=j/\o=.dead):=fun j o hj=>by
  rw [acF]at hj
  split at hj
  ·exact .inl hj
  ·rename_i hlt
   right
   rw [List.getElem?_replicate]at hj
   split at hj
   ·cases hj;exact⟨by omega,rfl⟩
   ·cases hj
 refine ⟨h.os,h.tape,h.output,h.size,h.old,h.fsize,h.kept,fun j cs ty hj=>?_,fun j j' b cs cs' ty ty' h1 h2 hb hb'=>?_,fun j hj=>h.dom j (by simp at hj;omega),fun j hj=>?_,h.rng⟩
 ·rcases hg j _ hj with hl|⟨_,e⟩
  ·exact h.loc j cs ty hl
  ·cases e
 ·rcases hg j _ h1 with hl|⟨_,e⟩
  ·rcases hg j' _ h2 with hl'|⟨_,e⟩
   ·exact h.inj j j' b cs cs' ty ty' hl hl' hb hb'
   ·cases e
  ·cases e
 ·rcases hg j _ hj with hl|⟨hle,_⟩
  ·exact h.dead j hl
  ·exact h.dom j hle
theorem rj (hF:jU F) (hS:∀ f,(S f).Ok P f) (hE:∀ t∈eqs,cU P t) {id:Nat} (hc:qw P eqs ops=some ds) {K:List ak->List ao->Prop} {Q:Exit->Act->World->Prop} {sl:List ak} {lh:List ao} {m:aF} {a:Act} {w:World}
 (hs:iT B m sl lh a w) (h:mr B.w0 S ds sl lh K) (hQ:∀ sl' lh' m' a' w',iT B m' sl' lh' a' w'->hG lh m lh' m'->K sl' lh'->Q .normal a' w'):(Code.region id ops true).wpIn F n P Q a w:=by
 unfold qw at hc
 split at hc
 ·cases hc
 ·rename_i xs hxs
  split at hc
  ·rename_i hcond
   cases hc
   simp only [aaw,ajU]at hcond
   obtain ⟨⟨⟨⟨h1,h2⟩,h3⟩,h4⟩,h5⟩:=hcond
   obtain ⟨hw,ht⟩:=h
   have hw':KS (gD ops xs (cm xs 0) xs 0) (kC B.w0 lh sl lh.length (gD ops xs (cm xs 0) xs 0)):=fun i d hd=>by
    refine ⟨fun hnw=>?_,?_⟩
    ·unfold wOf
     rw [oS,hd]
     have:=List.all_eq_true.1 h5 d (amg hd)
     simp [hnw]at this
     simp [this,tf]
    ·have:=nE (ds:=gD ops xs (cm xs 0) xs 0) (gD ops xs (cm xs 0) xs 0) 0 (fun j=>by simp) hw i d (by simpa using hd)
     simpa using this
   generalize kC B.w0 lh sl lh.length (gD ops xs (cm xs 0) xs 0)=Ws at hw ht hw'
   refine wpIn_region_any h1 ?_
   have hcl:fA ops (Array.replicate ops.size false):=fun k o hk=>by
    simp [amS]at hk
    split at hk<;>simp at hk
   have hany:=mt hS hw' h2 h4 (gD ops xs (cm xs 0) xs 0) 0 _ sl _ (fun j=>by simp) h3 hcl ht
   rw [← h4]
   have hext:hG lh m (lh++List.replicate (Rx (gD ops xs (cm xs 0) xs 0)) .dead) m:=⟨aF.le_refl m,fun k hk=>⟨by rw[aaQ (List.getElem?_eq_some_iff.1 hk).1];exact hk,rfl⟩⟩
   rw [h4]at hany ⊢
   exact wP hF hS hE hxs (xh ops xs (cm xs 0) xs 0) hQ _ _ sl _ m a _ ⟨hs.1,hs.2.1,(hs.2.2.deads _).drew _⟩ hext hany
  ·cases hc
end
end Go.Sx
namespace Go.Sx
inductive OT where
 |done
 |op (o:gS) (r:OT)
 |alt (a b:OT)
def o8 (w0:World) (S:FuncId->bH):OT->List ak->List ao->(List ak->List ao->Prop)->Prop
 |.done,sl,lh,K=>K sl lh
 |.op o r,sl,lh,K=>eE w0 S [o] sl lh fun sl lh=>o8 w0 S r sl lh K
 |.alt a b,sl,lh,K=>o8 w0 S a sl lh K/\o8 w0 S b sl lh K
def qq:kj->Bool
 |.mov _|.fa ..|.len _|.fld ..|.iaS ..|.ext ..=>true
 |_=>false
def pv (sl:List ak):kj->Option ak
 |.mov x=>some (arg sl x)
 | .fa off x=>match arg sl x with
   |.ptr (some p)=>some (.ptr (some (p.add off)))
   |_=>none
 | .len x=>match arg sl x with
   |.slice _ n _=>some (.int .i64 n)
   |_=>none
 | .fld off n x=>match arg sl x with
   | .agg cs=>(match n with
     |some n=>some (.agg ((cs.drop off).take n))
     |none=>cs[off]?)
   |_=>none
 | .iaS esz x ix=>match arg sl x,arg sl ix with
   |.slice (some q) n _,.int _ i=>if 0<=i/\i<n then some (.ptr (some (q.add (i.toNat*esz)))) else none
   |_,_=>none
 | .ext x i=>match arg sl x with
   |.tup vs=>vs[i]?
   |_=>none
 |_=>none
section
variable {w0:World} {S:FuncId->bH} {sl sl':List ak} {lh:List ao} {P:Program}
theorem Aa {op:kj} {K:ak->List ao->Prop} (h:qq op=true):cQ w0 S sl lh none K op↔∃ v,pv sl op=some v/\K v lh:=by
 cases op<;>simp only[qq,adg]at h<;>simp only[cQ,pv]
 case mov x=>exact⟨fun h=>⟨_,rfl,h⟩,fun ⟨_,e,h⟩=>by cases e;exact h⟩
 case fa off x =>
  generalize arg sl x=y
  match y with
  |.ptr (some p)=>exact⟨fun h=>⟨_,rfl,h⟩,fun ⟨_,e,h⟩=>by cases e;exact h⟩
  |.ptr none|.int ..|.bool _|.str _|.slice ..|.fn ..|.agg _|.tup _|.raw _|.any=>exact⟨fun h=>h.elim,fun ⟨_,e,_⟩=>by cases e⟩
 case len x =>
  generalize arg sl x=y
  match y with
  |.slice ..=>exact⟨fun h=>⟨_,rfl,h⟩,fun ⟨_,e,h⟩=>by cases e;exact h⟩
  |.ptr _|.int ..|.bool _|.str _|.fn ..|.agg _|.tup _|.raw _|.any=>exact⟨fun h=>h.elim,fun ⟨_,e,_⟩=>by cases e⟩
 case fld off n x =>
  generalize arg sl x=y
  match y,n with
  |.agg cs,some n=>exact⟨fun h=>⟨_,rfl,h⟩,fun ⟨_,e,h⟩=>by cases e;exact h⟩
  |.agg cs,none=>exact Iff.rfl
  |.ptr _,_|.int ..,_|.bool _,_|.str _,_|.slice ..,_|.fn ..,_|.tup _,_|.raw _,_|.any,_=>exact⟨fun h=>h.elim,fun ⟨_,e,_⟩=>by cases e⟩
 case iaS esz x ix =>
  generalize arg sl x=y
  generalize arg sl ix=z
  match y,z with
  | .slice (some q) n _,.int _ i =>
    dsimp only
    constructor
    ·rintro⟨h1,h2,q',e,h3⟩;cases e;exact⟨_,aby ⟨h1,h2⟩,h3⟩
    ·rintro⟨v,e,h3⟩
     split at e
     ·rename_i h;cases e;exact⟨h.1,h.2,q,rfl,h3⟩
     ·cases e
  |.slice none _ _,.int _ _=>exact⟨fun ⟨_,_,_,e,_⟩=>(by cases e),fun ⟨_,e,_⟩=>(by cases e)⟩
  |.slice ..,.ptr _|.slice ..,.bool _|.slice ..,.str _|.slice ..,.slice ..|.slice ..,.fn ..|.slice ..,.agg _|.slice ..,.tup _|.slice ..,.raw _|.slice ..,.any=>exact⟨fun h=>h.elim,fun ⟨_,e,_⟩=>by split at e<;>simp_all⟩
  |.ptr _,_|.int ..,_|.bool _,_|.str _,_|.agg _,_|.fn ..,_|.tup _,_|.raw _,_|.any,_=>exact⟨fun h=>h.elim,fun ⟨_,e,_⟩=>by cases e⟩
 case ext x i =>
  generalize arg sl x=y
  match y with
  |.tup vs=>exact Iff.rfl
  |.ptr _|.int ..|.bool _|.str _|.slice ..|.fn ..|.agg _|.raw _|.any=>exact⟨fun h=>h.elim,fun ⟨_,e,_⟩=>by cases e⟩
theorem Cr {op:kj} (h:∀ x∈op.args,arg sl x=arg sl' x):pv sl op=pv sl' op:=by
 cases op<;>simp only[kj.args,ahG,ajR,or_false,arw,forall_eq]at h<;>simp only[pv]
 all_goals first
  |rw[h]
  |rw[h.1,h.2]
end
def FI (g:Nat->Option OT):List Nat->Option OT
 |[]=>some .done
 |[i]=>g i
 | i::j::l=>match g i,FI g (j::l) with
   |some a,some b=>some (.alt a b)
   |_,_=>none
def TQ (xs:List gS) (i:Nat):Bool:=match xs[i]? with
 |some x=>qq x.op
 |none=>false
def K4 (ops:Array Oper) (xs:List gS):Nat->Array Bool->Option OT
 |0,listed=>if(Region.ready .any ops listed).isEmpty then some .done else none
 | f + 1,listed=>match (Region.ready .any ops listed).find? (TQ xs) with
   | some j=>match xs[j]?,K4 ops xs f (listed.setIfInBounds j true) with
     |some x,some t=>some (.op x t)
     |_,_=>none
   | none=>FI (fun i=>match xs[i]?,K4 ops xs f (listed.setIfInBounds i true) with
     |some x,some t=>some (.op x t)
     |_,_=>none) (Region.ready .any ops listed)
def oH (ops:Array Oper) (xs:List gS):Bool :=
 (List.range xs.length).all fun i=>(List.range xs.length).all fun j=>i==j||FV ops xs.length i j||FV ops xs.length j i||(match xs[i]?,xs[j]? with
   |some x,some y=>!qq x.op||nJ x y
   |_,_=>false)
def ZY (xs:List gS):Bool:=xs.any fun x=>match x.op with
 | .len (.t d)=>xs.any fun y=>y.dst==some d&&match y.op with
   |.call ..=>true
   |_=>false
 |_=>false
def A5 (P:Program) (eqs:List TypeId) (ops:Array Oper):Option OT :=
 match eM P eqs ops ops.toList with
 |none=>none
 |some xs=>if P.follows .mixedOrders&&(xs.all (fun x=>x.guard.isNone)&&(ZY xs&&(oH ops xs&&xs.length==ops.size))) then K4 ops xs ops.size (Array.replicate ops.size false) else none
section
variable {P:Program} {S:FuncId->bH} {w0:World} {ops:Array Oper} {xs:List gS} {K:List ak->List ao->Prop}
def Ag (w0:World) (S:FuncId->bH) (ops:Array Oper) (xs:List gS) (K:List ak->List ao->Prop):Nat->Array Bool->List ak->List ao->Prop
 |0,listed,sl,lh=>Region.ready .any ops listed=[]/\K sl lh
 | fuel+1,listed,sl,lh=>(Region.ready .any ops listed=[]->K sl lh) /\
    ∀ i∈Region.ready .any ops listed,∀ x,xs[i]? = some x->cQ w0 S sl lh none (fun v l=>Ag w0 S ops xs K fuel (listed.setIfInBounds i true) (eb sl x.dst v) l) x.op
theorem PE {x:fi} {d:Option Nat} {sl:List ak} {v:ak} (h:∀ t,d=some t->t∉qK [x]):arg (eb sl d v) x=arg sl x:=by
 cases x with
 |k a=>rfl
 | t i =>
   simp only [arg]
   exact yI fun e=>h i e (by simp[qK])
theorem oN {x:gS} {d:Option Nat} {sl:List ak} {v:ak} (h:∀ t,d=some t->t∉x.reads):∀ y∈x.op.args,arg (eb sl d v) y=arg sl y:=fun y hy=>PE fun t ht hm=>h t ht (by
 cases y with
 |k a=>simp[qK]at hm
 | t i =>
   simp [qK]at hm
   subst hm
   exact apc _ (List.mem_filterMap.2 ⟨_,hy,rfl⟩))
theorem EU (hS:∀ f,(S f).Ok P f) (hp:oH ops xs=true) (hlen:xs.length=ops.size) {i:Nat} {x:gS} (hx:xs[i]? = some x) (hpx:qq x.op=true):∀ (fuel:Nat) (listed:Array Bool) (sl:List ak) (lh:List ao),fA ops listed->i∈Region.ready .any ops listed ->
 cQ w0 S sl lh none (fun v l=>Ag w0 S ops xs K fuel (listed.setIfInBounds i true) (eb sl x.dst v) l) x.op->Ag w0 S ops xs K (fuel+1) listed sl lh:=by
 have good:∀ (listed:Array Bool) (j:Nat) (y:gS),fA ops listed->i∈Region.ready .any ops listed->j∈Region.ready .any ops listed->j≠i->xs[j]? = some y->nJ x y=true:=fun listed j y hc hi hj hne hy=>by
  obtain ⟨ui,oi,hoi,ai⟩:=mem_ready.1 hi
  obtain ⟨uj,oj,hoj,aj⟩:=mem_ready.1 hj
  have li:i<xs.length:=by rw[hlen];exact(Array.getElem?_eq_some_iff.1 hoi).1
  have lj:j<xs.length:=by rw[hlen];exact(Array.getElem?_eq_some_iff.1 hoj).1
  simp only [oH,anT,List.mem_range]at hp
  have:=hp i li j lj
  simp only [ajQ,ajU,hx,hy,hpx]at this
  have no:∀ {x:Nat},listed.getD x true=false->listed.getD x false=true->False:=fun {x} h1 h2=>by
   rcases aqb x listed.size with h|h
   ·simp[h]at h1 h2;rw[h1]at h2;cases h2
   ·simp[apD h]at h1
  rcases this with ((h|h)|h)|h
  ·exact(hne h.symm).elim
  ·exact(no uj (eK hc _ i oi hoi ai h)).elim
  ·exact(no ui (eK hc _ j oj hoj aj h)).elim
  ·simpa using h
 intro fuel
 induction fuel with
 | zero =>
   intro listed sl lh hc hi H
   refine ⟨fun h=>(by rw[h]at hi;cases hi),fun j hj y hy=>?_⟩
   by_cases hji:j=i
   ·subst hji;rw[hx]at hy;cases hy;exact H
   ·exfalso
    have hr:=ready_mono hj hji
    obtain ⟨v,_,H⟩:=(Aa hpx).1 H
    have hnil:=H.1
    rw [hnil]at hr;cases hr
 | succ fuel ih =>
   intro listed sl lh hc hi H
   refine ⟨fun h=>(by rw[h]at hi;cases hi),fun j hj y hy=>?_⟩
   by_cases hji:j=i
   ·subst hji;rw[hx]at hy;cases hy;exact H
   ·obtain ⟨v,hv,H⟩:=(Aa hpx).1 H
    obtain ⟨a1,a2,a3⟩:=oa (good listed j y hc hi hj hji hy)
    have h1:=H.2 j (ready_mono hj hji) y hy
    rw [oD (sl':=sl) (oN (fun t ht=>a1 t ht))]at h1
    refine dl hS (fun u l h=>?_) h1
    refine ih _ _ l (eO hc hj) (ready_mono hi (Ne.symm hji)) ?_
    rw [Aa hpx]
    refine ⟨v,?_,?_⟩
    ·rw[Cr (sl':=sl) (oN (fun t ht=>a3 t ht))];exact hv
    ·rw[arp _ _ hji,sc (d:=y.dst) (d':=x.dst) (fun k hk hk'=>a2 k hk' hk)]
     exact h
theorem xH {g:Nat->Option OT} {sl:List ak} {lh:List ao}:∀ {l:List Nat} {t:OT},FI g l=some t->o8 w0 S t sl lh K->∀ i∈l,∃ u,g i=some u/\o8 w0 S u sl lh K
 |[],_,_,_,i,hi=>by cases hi
 |[j],t,h,hv,i,hi=>by simp at hi;subst hi;exact⟨t,h,hv⟩
 | j::k::l,t,h,hv,i,hi=>by
   simp only [FI]at h
   split at h
   ·rename_i a b ha hb
    cases h
    rcases List.mem_cons.1 hi with rfl|hi
    ·exact⟨a,ha,hv.1⟩
    ·exact xH hb hv.2 i hi
   ·cases h
theorem Bo (hS:∀ f,(S f).Ok P f) (hp:oH ops xs=true) (hg:xs.all (fun x=>x.guard.isNone)=true) (hlen:xs.length=ops.size):∀ (fuel:Nat) (listed:Array Bool) (sl:List ak) (lh:List ao) (t:OT),fA ops listed->K4 ops xs fuel listed=some t->o8 w0 S t sl lh K->Ag w0 S ops xs K fuel listed sl lh
 | 0,listed,sl,lh,t,hc,ht,hv=>by
   simp only [K4]at ht
   split at ht
   ·rename_i he;cases ht;exact⟨by simpa using he,hv⟩
   ·cases ht
 | fuel+1,listed,sl,lh,t,hc,ht,hv=>by
   have one:∀ (x:gS) (j:Nat),xs[j]? = some x->∀ {K:List ak->List ao->Prop},eE w0 S [x] sl lh K->cQ w0 S sl lh none (fun v l=>K (eb sl x.dst v) l) x.op:=fun x j hx K h=>by
    have hgx:x.guard=none:=by have:=List.all_eq_true.1 hg x (amg hx);simpa using this
    simp only [eE,hgx]at h
    exact h
   simp only [K4]at ht
   split at ht
   ·rename_i j hj
    split at ht
    ·rename_i x u hx hu
     cases ht
     have hjr:=List.mem_of_find?_eq_some hj
     have hjp:qq x.op=true:=by have:=List.find?_some hj;simpa[TQ,hx] using this
     refine EU hS hp hlen hx hjp fuel listed sl lh hc hjr ?_
     exact dl hS (fun v l h=>Bo hS hp hg hlen fuel _ _ l u (eO hc hjr) hu h) (one x j hx hv)
    ·cases ht
   ·rename_i hnone
    refine ⟨fun hr=>?_,fun i hi x hx=>?_⟩
    ·rw[hr]at ht;simp only[FI,aaB]at ht;subst ht;exact hv
    ·obtain ⟨u,hu,hvu⟩:=xH ht hv i hi
     rw [hx]at hu
     split at hu
     ·rename_i x' r e1 hr
      cases e1
      cases hu
      exact dl hS (fun v l h=>Bo hS hp hg hlen fuel _ _ l r (eO hc hi) hr h) (one x i hx hvu)
     ·cases hu
end
section
variable {P:Program} {S:FuncId->bH} {eqs:List TypeId} {B:cY} {F:Fence} {n:Nat} {ops:Array Oper}
theorem qt (hF:jU F) (hS:∀ f,(S f).Ok P f) (hE:∀ t∈eqs,cU P t) {xs:List gS} (hc:eM P eqs ops ops.toList=some xs) (hg:xs.all (fun x=>x.guard.isNone)=true)
 {K:List ak->List ao->Prop} {Q:Exit->Act->World->Prop} {lh0:List ao} {m0:aF} (hQ:∀ sl' lh' m' a' w',iT B m' sl' lh' a' w'->hG lh0 m0 lh' m'->K sl' lh'->Q .normal a' w') :
 ∀ (fuel:Nat) (listed:Array Bool) (sl:List ak) (lh:List ao) (m:aF) (a:Act) (w:World),iT B m sl lh a w->hG lh0 m0 lh m->Ag B.w0 S ops xs K fuel listed sl lh->wpAnyIn F n P .any ops Q fuel listed a w
 |0,_,_,_,_,_,_,hs,he,h=>⟨h.1,hQ _ _ _ _ _ hs he h.2⟩
 | fuel+1,listed,sl,lh,m,a,w,hs,he,h=>by
   have hSS:∀ f,(S f).Sound P f:=fun f=>(hS f).sound
   refine ⟨fun hr=>hQ _ _ _ _ _ hs he (h.1 hr),fun i hi=>?_⟩
   obtain ⟨_,o,ho,_⟩:=mem_ready.1 hi
   obtain ⟨x,hx,hco⟩:=kv ops.toList xs i o hc (by simpa using ho)
   have h2:=h.2 i hi x hx
   have hgx:x.guard=none:=by have:=List.all_eq_true.1 hg x (amg hx);simpa using this
   unfold wpOpIn
   simp only [ho]
   unfold kd at hco
   split at hco
   ·rename_i j hj hgo
    cases hco
    rw [aby (by simp[Region.wanted,hgo])]
    refine iw hF hj (oL hSS hE hj hs.1 hs.2.2 h2) fun v w' ⟨r,m',lh',h3,h4,h5,h6⟩=>?_
    exact qt hF hS hE hc hg hQ fuel _ _ _ m' _ _ (hs.put h4.1 h5 o.dst h3) (he.trans h4) h6
   ·split at hco
    ·cases hco;cases hgx
    ·cases hco
   ·cases hco
theorem Eo (hF:jU F) (hS:∀ f,(S f).Ok P f) (hE:∀ t∈eqs,cU P t) {id:Nat} {t:OT} (hc:A5 P eqs ops=some t) {K:List ak->List ao->Prop} {Q:Exit->Act->World->Prop} {sl:List ak} {lh:List ao} {m:aF} {a:Act} {w:World}
 (hs:iT B m sl lh a w) (h:o8 B.w0 S t sl lh K) (hQ:∀ sl' lh' m' a' w',iT B m' sl' lh' a' w'->hG lh m lh' m'->K sl' lh'->Q .normal a' w'):(Code.region id ops true).wpIn F n P Q a w:=by
 unfold A5 at hc
 split at hc
 ·cases hc
 ·rename_i xs hxs
  split at hc
  ·rename_i hcond
   simp only [aaw,ajU]at hcond
   obtain ⟨h1,h2,_,h4,h5⟩:=hcond
   refine wpIn_region_any h1 ?_
   have hcl:fA ops (Array.replicate ops.size false):=fun k o hk=>by
    simp [amS]at hk
    split at hk<;>simp at hk
   have hall:=Bo hS h4 h2 h5 ops.size _ sl lh t hcl hc h
   exact qt hF hS hE hxs h2 hQ _ _ sl lh m a _ ⟨hs.1,hs.2.1,hs.2.2.drew _⟩ (hG.refl _ _) hall
  ·cases hc
end
end Go.Sx
namespace Go.Sx
def xL (S:FuncId->bH):FuncId->bH:=fun f w0 args lh K=>S f w0 args lh fun v l=>(∃ t,l=lh++t)/\K v l
theorem qo {P:Program} {S:FuncId->bH} (hS:∀ f,(S f).Ok P f):∀ f,(xL S f).Ok P f:=fun f =>
 ⟨fun B m lh w args vs K h1 h2 h3=>(hS f).sound B m lh w args vs K h1 h2 ((hS f).mono _ _ _ _ _ (fun _ _ h=>h.2) h3),
  fun w0 args lh K K' hk h=>(hS f).mono _ _ _ _ _ (fun r l h=>⟨h.1,hk _ _ h.2⟩) h,
  fun w0 args lh Q h=>(hS f).strict _ _ _ _ ((hS f).mono _ _ _ _ _ (fun _ _ h=>h.2) h)⟩
def S5:kj->Bool
 |.st ..|.app ..|.clr ..|.bsl ..=>false
 |_=>true
def XW:kj->Bool
 |.ld _|.lds ..=>true
 |_=>false
def Ow (op:kj):Bool:=XW op||qq op
def pm (w0:World) (lh:List ao) (sl:List ak):kj->Option ak
 | .ld x=>match arg sl x with
   |.ptr (some p)=>ld w0 lh p
   |_=>none
 | .lds n x=>match arg sl x with
   |.ptr (some p)=>(lds w0 lh p n).map .agg
   |_=>none
 |op=>pv sl op
section
variable {w0:World} {S:FuncId->bH} {sl sl':List ak} {lh:List ao} {P:Program}
theorem FF {op:kj} {K:ak->List ao->Prop} (h:Ow op=true):cQ w0 S sl lh none K op↔∃ v,pm w0 lh sl op=some v/\K v lh:=by
 cases op
 case ld x =>
  simp only [cQ,pm]
  generalize arg sl x=y
  match y with
  |.ptr (some p)=>exact Iff.rfl
  |.ptr none|.int ..|.bool _|.str _|.slice ..|.fn ..|.agg _|.tup _|.raw _|.any=>exact⟨fun h=>h.elim,fun ⟨_,e,_⟩=>by cases e⟩
 case lds n x =>
  simp only [cQ,pm]
  generalize arg sl x=y
  match y with
  | .ptr (some p) =>
    constructor
    ·rintro⟨cs,e,h⟩;exact⟨_,by show Option.map ak.agg (lds w0 lh p n)=_;rw[e];rfl,h⟩
    ·rintro⟨v,e,h⟩
     dsimp only at e
     cases hl:lds w0 lh p n with
     |none=>rw[hl]at e;cases e
     |some cs=>rw[hl]at e;cases e;exact⟨cs,hl,h⟩
  |.ptr none|.int ..|.bool _|.str _|.slice ..|.fn ..|.agg _|.tup _|.raw _|.any=>exact⟨fun h=>h.elim,fun ⟨_,e,_⟩=>by cases e⟩
 all_goals first
  |(cases h;done)
  |exact Aa (S:=S) h
theorem Np {op:kj} (h:∀ x∈op.args,arg sl x=arg sl' x):pm w0 lh sl op=pm w0 lh sl' op:=by
 cases op
 case ld x=>simp only[kj.args,ahG,ajR,or_false,forall_eq]at h;simp only[pm];rw[h]
 case lds n x=>simp only[kj.args,ahG,ajR,or_false,forall_eq]at h;simp only[pm];rw[h]
 all_goals exact Cr h
theorem Zh {op:kj} {l:List ao} (h:XW op=false):pm w0 l sl op=pm w0 lh sl op:=by
 cases op<;>first|rfl|cases h
theorem Cb {t:List ao} {k:Nat} {o:ao} (h:lh[k]? = some o):(lh++t)[k]? = some o:=by
 rw [aaQ (List.getElem?_eq_some_iff.1 h).1];exact h
theorem U4 {t:List ao} {p:gR} {v:ak} (h:ld w0 lh p=some v):ld w0 (lh++t) p=some v:=by
 cases p with
 | l k off =>
   simp only [ld]at h ⊢
   split at h
   ·rename_i cs ty hk;rw[Cb hk];exact h
   ·cases h
 |g a=>exact h
theorem Ue {t:List ao} {p:gR} {n:Nat} {v:List ak} (h:lds w0 lh p n=some v):lds w0 (lh++t) p n=some v:=by
 cases p with
 | l k off =>
   simp only [lds]at h ⊢
   split at h
   ·rename_i cs ty hk;rw[Cb hk];exact h
   ·cases h
 |g a=>exact h
theorem YK {op:kj} {t:List ao} {v:ak} (h:pm w0 lh sl op=some v):pm w0 (lh++t) sl op=some v:=by
 cases op
 case ld x =>
  simp only [pm]at h ⊢
  split at h
  ·exact U4 h
  ·cases h
 case lds n x =>
  simp only [pm]at h ⊢
  split at h
  ·rename_i p _
   cases hl:lds w0 lh p n with
   |none=>rw[hl]at h;cases h
   |some cs=>rw[hl]at h;rw[Ue hl];exact h
  ·cases h
 all_goals exact h
theorem RR (hS:∀ f,(S f).Ok P f) {op:kj} {K:ak->List ao->Prop} (hg:S5 op=true) (h:cQ w0 (xL S) sl lh none K op):cQ w0 (xL S) sl lh none (fun v l=>(∃ t,l=lh++t)/\K v l) op:=by
 have hP:=qo hS
 have h0:∃ t,lh=lh++t:=⟨[],by simp⟩
 have at0:∀ {op:kj},(∀ K:ak->List ao->Prop,cQ w0 (xL S) sl lh none K op=cQ w0 (xL S) sl lh none (fun v _=>K v lh) op)->cQ w0 (xL S) sl lh none K op->cQ w0 (xL S) sl lh none (fun v l=>(∃ t,l=lh++t)/\K v l) op:=fun e h=>by
  rw [e]at h ⊢
  exact dl hP (fun v l hk=>⟨h0,hk⟩) h
 cases op
 case new ty z=>exact⟨⟨_,rfl⟩,h⟩
 case box ty x=>exact⟨h.1,⟨_,rfl⟩,h.2⟩
 case mks ty n cs=>exact⟨⟨_,rfl⟩,h⟩
 case call f xs =>
  simp only [cQ,xL]at h ⊢
  exact (hS f).mono _ _ _ _ _ (fun v l hk=>⟨hk.1,hk⟩) h
 case callv x xs =>
  simp only [cQ,xL]at h ⊢
  split at h
  ·exact(hS _).mono _ _ _ _ _ (fun v l hk=>⟨hk.1,hk⟩) h
  ·exact h.elim
 all_goals first
  |(cases hg;done)
  |exact at0 (fun K=>rfl) h
end
def akr (xs:List gS) (i:Nat):Bool:=match xs[i]? with
 |some x=>Ow x.op
 |none=>false
def LU (ops:Array Oper) (xs:List gS):Nat->Array Bool->Option OT
 |0,listed=>if(Region.ready .any ops listed).isEmpty then some .done else none
 | f + 1,listed=>match (Region.ready .any ops listed).find? (akr xs) with
   | some j=>match xs[j]?,LU ops xs f (listed.setIfInBounds j true) with
     |some x,some t=>some (.op x t)
     |_,_=>none
   | none=>FI (fun i=>match xs[i]?,LU ops xs f (listed.setIfInBounds i true) with
     |some x,some t=>some (.op x t)
     |_,_=>none) (Region.ready .any ops listed)
def uC (ops:Array Oper) (xs:List gS):Bool :=
 (List.range xs.length).all fun i=>(List.range xs.length).all fun j=>i==j||FV ops xs.length i j||FV ops xs.length j i||(match xs[i]?,xs[j]? with
   |some x,some y=>!Ow x.op||(nJ x y&&(!XW x.op||S5 y.op))
   |_,_=>false)
def Lu (P:Program) (f:FuncId):Bool:=match P.funcs[f]? with
 | some fn=>fn.resultTypes.toList.any fun t=>match p8 P t with
   | some z=>z.toList.any fun v=>match v with
     |.slice ..=>true
     |_=>false
   |none=>false
 |none=>false
def OH (P:Program) (xs:List gS):Bool:=xs.any fun x=>match x.op with
 |.call f _=>Lu P f
 | .agg z ps=>ps.any fun p=>(match z[p.1]? with
   |some (.slice none 0 0)=>true
   | _ => false)&&match p.2.2 with
     | .t d=>xs.any fun y=>y.dst==some d&&match y.op with
       |.callv ..=>true
       |_=>false
     |_=>false
 |_=>false
def r9 (P:Program) (eqs:List TypeId) (ops:Array Oper):Option OT :=
 match eM P eqs ops ops.toList with
 |none=>none
 |some xs=>if P.follows .mixedOrders&&(xs.all (fun x=>x.guard.isNone)&&(OH P xs&&(uC ops xs&&xs.length==ops.size))) then LU ops xs ops.size (Array.replicate ops.size false) else none
section
variable {P:Program} {S:FuncId->bH} {w0:World} {ops:Array Oper} {xs:List gS} {K:List ak->List ao->Prop}
theorem Ru (hS:∀ f,(S f).Ok P f) (hp:uC ops xs=true) (hlen:xs.length=ops.size) {i:Nat} {x:gS} (hx:xs[i]? = some x) (hpx:Ow x.op=true):∀ (fuel:Nat) (listed:Array Bool) (sl:List ak) (lh:List ao),fA ops listed->i∈Region.ready .any ops listed ->
 cQ w0 (xL S) sl lh none (fun v l=>Ag w0 (xL S) ops xs K fuel (listed.setIfInBounds i true) (eb sl x.dst v) l) x.op->Ag w0 (xL S) ops xs K (fuel+1) listed sl lh:=by
 have hP:=qo hS
 have good:∀ (listed:Array Bool) (j:Nat) (y:gS),fA ops listed->i∈Region.ready .any ops listed->j∈Region.ready .any ops listed->j≠i->xs[j]? = some y->nJ x y=true/\(XW x.op=false∨S5 y.op=true):=fun listed j y hc hi hj hne hy=>by
  obtain ⟨ui,oi,hoi,ai⟩:=mem_ready.1 hi
  obtain ⟨uj,oj,hoj,aj⟩:=mem_ready.1 hj
  have li:i<xs.length:=by rw[hlen];exact(Array.getElem?_eq_some_iff.1 hoi).1
  have lj:j<xs.length:=by rw[hlen];exact(Array.getElem?_eq_some_iff.1 hoj).1
  simp only [uC,anT,List.mem_range]at hp
  have:=hp i li j lj
  simp only [ajQ,ajU,hx,hy,hpx]at this
  have no:∀ {x:Nat},listed.getD x true=false->listed.getD x false=true->False:=fun {x} h1 h2=>by
   rcases aqb x listed.size with h|h
   ·simp[h]at h1 h2;rw[h1]at h2;cases h2
   ·simp[apD h]at h1
  rcases this with ((h|h)|h)|h
  ·exact(hne h.symm).elim
  ·exact(no uj (eK hc _ i oi hoi ai h)).elim
  ·exact(no ui (eK hc _ j oj hoj aj h)).elim
  ·simp only[apb,aaw,ajQ,aia,adg,false_or]at h
   exact h
 intro fuel
 induction fuel with
 | zero =>
   intro listed sl lh hc hi H
   refine ⟨fun h=>(by rw[h]at hi;cases hi),fun j hj y hy=>?_⟩
   by_cases hji:j=i
   ·subst hji;rw[hx]at hy;cases hy;exact H
   ·exfalso
    have hr:=ready_mono hj hji
    obtain ⟨v,_,H⟩:=(FF hpx).1 H
    have hnil:=H.1
    rw [hnil]at hr;cases hr
 | succ fuel ih =>
   intro listed sl lh hc hi H
   refine ⟨fun h=>(by rw[h]at hi;cases hi),fun j hj y hy=>?_⟩
   by_cases hji:j=i
   ·subst hji;rw[hx]at hy;cases hy;exact H
   ·obtain ⟨v,hv,H⟩:=(FF hpx).1 H
    obtain ⟨hap,hgr⟩:=good listed j y hc hi hj hji hy
    obtain ⟨a1,a2,a3⟩:=oa hap
    have h1:=H.2 j (ready_mono hj hji) y hy
    rw [oD (sl':=sl) (oN (fun t ht=>a1 t ht))]at h1
    have h2:cQ w0 (xL S) sl lh none (fun u l=>pm w0 l sl x.op=some v/\Ag w0 (xL S) ops xs K fuel ((listed.setIfInBounds i true).setIfInBounds j true) (eb (eb sl x.dst v) y.dst u) l) y.op:=by
     rcases hgr with hgr|hgr
     ·exact dl hP (fun u l h=>⟨(Zh hgr).trans hv,h⟩) h1
     ·exact dl hP (fun u l h=>⟨by obtain⟨⟨t,rfl⟩,_⟩:=h;exact YK hv,h.2⟩) (RR hS hgr h1)
    refine dl hP (fun u l h=>?_) h2
    refine ih _ _ l (eO hc hj) (ready_mono hi (Ne.symm hji)) ?_
    rw [FF hpx]
    refine ⟨v,?_,?_⟩
    ·rw[Np (sl':=sl) (oN (fun t ht=>a3 t ht))];exact h.1
    ·rw[arp _ _ hji,sc (d:=y.dst) (d':=x.dst) (fun k hk hk'=>a2 k hk' hk)]
     exact h.2
theorem Uz (hS:∀ f,(S f).Ok P f) (hp:uC ops xs=true) (hg:xs.all (fun x=>x.guard.isNone)=true) (hlen:xs.length=ops.size):∀ (fuel:Nat) (listed:Array Bool) (sl:List ak) (lh:List ao) (t:OT),fA ops listed->LU ops xs fuel listed=some t->o8 w0 (xL S) t sl lh K->Ag w0 (xL S) ops xs K fuel listed sl lh
 | 0,listed,sl,lh,t,hc,ht,hv=>by
   simp only [LU]at ht
   split at ht
   ·rename_i he;cases ht;exact⟨by simpa using he,hv⟩
   ·cases ht
 | fuel+1,listed,sl,lh,t,hc,ht,hv=>by
   have hP:=qo hS
   have one:∀ (x:gS) (j:Nat),xs[j]? = some x->∀ {K:List ak->List ao->Prop},eE w0 (xL S) [x] sl lh K->cQ w0 (xL S) sl lh none (fun v l=>K (eb sl x.dst v) l) x.op:=fun x j hx K h=>by
    have hgx:x.guard=none:=by have:=List.all_eq_true.1 hg x (amg hx);simpa using this
    simp only [eE,hgx]at h
    exact h
   simp only [LU]at ht
   split at ht
   ·rename_i j hj
    split at ht
    ·rename_i x u hx hu
     cases ht
     have hjr:=List.mem_of_find?_eq_some hj
     have hjp:Ow x.op=true:=by have:=List.find?_some hj;simpa[akr,hx] using this
     refine Ru hS hp hlen hx hjp fuel listed sl lh hc hjr ?_
     exact dl hP (fun v l h=>Uz hS hp hg hlen fuel _ _ l u (eO hc hjr) hu h) (one x j hx hv)
    ·cases ht
   ·rename_i hnone
    refine ⟨fun hr=>?_,fun i hi x hx=>?_⟩
    ·rw[hr]at ht;simp only[FI,aaB]at ht;subst ht;exact hv
    ·obtain ⟨u,hu,hvu⟩:=xH ht hv i hi
     rw [hx]at hu
     split at hu
     ·rename_i x' r e1 hr
      cases e1
      cases hu
      exact dl hP (fun v l h=>Uz hS hp hg hlen fuel _ _ l r (eO hc hi) hr h) (one x i hx hvu)
     ·cases hu
end
section
variable {P:Program} {S:FuncId->bH} {eqs:List TypeId} {B:cY} {F:Fence} {n:Nat} {ops:Array Oper}
theorem Fw (hF:jU F) (hS:∀ f,(S f).Ok P f) (hE:∀ t∈eqs,cU P t) {id:Nat} {t:OT} (hc:r9 P eqs ops=some t) {K:List ak->List ao->Prop} {Q:Exit->Act->World->Prop} {sl:List ak} {lh:List ao} {m:aF} {a:Act} {w:World}
 (hs:iT B m sl lh a w) (h:o8 B.w0 (xL S) t sl lh K) (hQ:∀ sl' lh' m' a' w',iT B m' sl' lh' a' w'->hG lh m lh' m'->K sl' lh'->Q .normal a' w'):(Code.region id ops true).wpIn F n P Q a w:=by
 unfold r9 at hc
 split at hc
 ·cases hc
 ·rename_i xs hxs
  split at hc
  ·rename_i hcond
   simp only [aaw,ajU]at hcond
   obtain ⟨h1,h2,_,h4,h5⟩:=hcond
   refine wpIn_region_any h1 ?_
   have hcl:fA ops (Array.replicate ops.size false):=fun k o hk=>by
    simp [amS]at hk
    split at hk<;>simp at hk
   have hall:=Uz hS h4 h2 h5 ops.size _ sl lh t hcl hc h
   exact qt hF (qo hS) hE hxs h2 hQ _ _ sl lh m a _ ⟨hs.1,hs.2.1,hs.2.2.drew _⟩ (hG.refl _ _) hall
  ·cases hc
end
end Go.Sx
