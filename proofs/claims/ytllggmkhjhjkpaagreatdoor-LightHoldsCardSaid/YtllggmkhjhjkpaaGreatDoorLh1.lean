/- Part 1 of a proof. No conditions. -/
import Derived.CallsIn
import Derived.Laws.Entries
import Derived.OrdersIn
set_option maxRecDepth 100000
set_option linter.unusedVariables false
set_option linter.unusedSimpArgs false
theorem E {p:Prop} (h:p:=by omega):p:=h
theorem av {p:Prop} (h:p:=by simp):p:=h
theorem Ej {p:Prop} (h:p:=by decide):p:=h
abbrev Eg:=@Bool.and_eq_true
abbrev Fq:=@Int.mul_le_mul_of_nonneg_right
abbrev FF:=@Nat.eq_of_beq_eq_true
abbrev Fp:=@List.getElem?_append_left
abbrev Et:=@Option.some.injEq
abbrev Fy:=@Option.map_eq_some_iff
abbrev G2:=@Nat.le_of_ble_eq_true
abbrev GY:=@List.getElem?_append_right
abbrev Em:=@Nat.le_refl
abbrev DX:=@if_neg
abbrev Ep:=@Int.le_refl
abbrev Fv:=@of_decide_eq_true
abbrev GE:=@List.getElem?_eq_none
abbrev G1:=@List.getElem?_set
abbrev Ga:=@Nat.mul_le_mul_right
abbrev E5:=@if_pos
abbrev G5:=@List.cons.injEq
abbrev GV:=@decide_eq_true_eq
abbrev GR:=@Int.toNat_natCast
abbrev Fg:=@Int.le_trans
abbrev G0:=@Int.le_of_lt
abbrev HT:=@Int.le_of_mul_le_mul_right
abbrev GU:=@Option.map_some
abbrev HA:=@List.mem_cons_of_mem
abbrev HU:=@List.getElem?_eq_getElem
abbrev H3:=@of_decide_eq_false
abbrev Hc:=@List.getElem?_cons_zero
abbrev He:=@List.getElem?_cons_succ
abbrev HO:=@List.getElem?_append
abbrev GZ:=@List.map_cons
abbrev HH:=@Bool.false_eq_true
abbrev GW:=@Nat.succ_mul
abbrev HC:=@List.length_cons
abbrev GG:=@Nat.zero_le
abbrev HP:=@List.length_append
abbrev Gh:=@Nat.zero_add
abbrev Hj:=@Nat.ble_eq_true_of_le
abbrev HW:=@List.getElem?_take
abbrev Gw:=@List.all_cons
abbrev Hg:=@List.ext_getElem?
abbrev HD:=@List.mem_cons
abbrev Ho:=@Nat.lt_of_lt_of_le
abbrev Hq:=@List.getElem?_drop
abbrev I5:=@List.length_reverse
abbrev Ht:=@List.reverse_cons
abbrev Hu:=@Bool.not_eq_true'
abbrev H5:=@Int.mul_pos
abbrev Hw:=@List.mem_cons_self
abbrev HJ:=@Int.mul_zero
abbrev GQ:=@true_and
abbrev HQ:=@Nat.le_trans
abbrev Hs:=@List.length_nil
abbrev Jg:=@List.take_append_of_le_length
abbrev Gq:=@if_false
abbrev IF:=@Array.toList_inj
abbrev Jh:=@Int.lt_of_mul_lt_mul_right
abbrev Ji:=@Int.fdiv_eq_ediv_of_nonneg
abbrev J7:=@List.take_of_length_le
abbrev Hz:=@Nat.mul_le_mul
abbrev IG:=@Nat.not_lt_zero
abbrev Hl:=@Nat.lt_or_ge
abbrev II:=@Bool.or_eq_true
abbrev IP:=@List.not_mem_nil
abbrev IT:=@Array.toList_map
abbrev JA:=@Int.le_of_lt_add_one
abbrev IA:=@Bool.not_true
abbrev IK:=@List.drop_drop
abbrev HX:=@beq_iff_eq
abbrev HK:=@eq_of_beq
abbrev Hm:=@Nat.add_mul
abbrev J8:=@List.replicate_succ
abbrev I6:=@Nat.add_zero
abbrev J9:=@List.pairwise_cons
abbrev I9:=@Int.le_total
abbrev IW:=@List.take_take
abbrev Hv:=@Int.one_mul
abbrev IY:=@Bool.not_false
abbrev Jq:=@List.mem_of_getElem?
abbrev JE:=@List.append_assoc
abbrev Ij:=@Int.neg_mul_neg
abbrev Ks:=@Array.getElem?_replicate
abbrev H2:=@if_true
abbrev Jm:=@List.map_congr_left
abbrev Jo:=@Array.length_toList
abbrev Jp:=@Array.getElem?_push
abbrev JC:=@List.range'_succ
abbrev MM:=@List.drop_append_of_le_length
abbrev JF:=@List.all_eq_true
abbrev Jr:=@List.mem_singleton
abbrev JG:=@Nat.min_eq_left
abbrev Ia:=@List.map_nil
abbrev LA:=@List.getElem?_toArray
abbrev IZ:=@Int.sub_self
abbrev Ik:=@Nat.add_assoc
abbrev ML:=@Int.tdiv_eq_ediv_of_nonneg
abbrev Kv:=@List.mem_append_left
abbrev L8:=@List.getElem?_mapIdx
abbrev MW:=@Array.getElem?_eq_getElem
abbrev Jw:=@List.length_tail
abbrev Jx:=@List.length_drop
abbrev Jy:=@List.cons_append
abbrev Il:=@Bool.not_not
abbrev K9:=@Option.map_none
abbrev KD:=@List.mem_append
abbrev KE:=@Bool.eq_iff_iff
abbrev MX:=@Array.getElem?_eq_none
abbrev LU:=@not_true_eq_false
abbrev LW:=@List.flatten_cons
abbrev Io:=@Int.neg_mul
abbrev KG:=@List.mapM_cons
abbrev KH:=@List.drop_take
abbrev JI:=@Nat.ne_of_lt
abbrev MY:=@List.take_append_drop
abbrev JK:=@Int.add_zero
abbrev LX:=@Option.getD_some
abbrev Om:=@Int.mul_le_mul_of_nonpos_left
abbrev LZ:=@Bool.cond_eq_ite
abbrev MZ:=@List.range_eq_range'
abbrev Ma:=@List.mem_of_mem_tail
abbrev Ip:=@Nat.mod_lt
abbrev MN:=@beq_eq_false_iff_ne
abbrev LK:=@List.append_nil
abbrev JH:=@Int.mul_neg
abbrev Of:=@Int.mul_lt_mul_of_pos_right
abbrev MO:=@Array.toList_append
abbrev Og:=@Array.getD_eq_getD_getElem?
abbrev Oi:=@List.getD_eq_getElem?_getD
abbrev Oj:=@Array.toList_setIfInBounds
abbrev Js:=@Nat.add_comm
abbrev MQ:=@Int.natCast_nonneg
abbrev LL:=@decide_eq_true
abbrev Ol:=@Array.setIfInBounds_comm
abbrev Jv:=@Int.mul_one
abbrev MU:=@forall_eq_or_imp
abbrev MV:=@List.length_take
namespace Go.Sx
inductive jp where|l (k off:Nat)|g (a:Addr)
inductive af where|int (k:IntKind) (n:Int)|bool (b:Bool)|str (s:ByteArray)|ptr (p:Option jp)|slice (p:Option jp) (len cap:Nat)|fn (f:Fn) (first caps:List af)|agg (cs:List af)|tup (vs:List af)|raw (v:Value)|any
inductive ar where|dead|hid|cells (cs:List af) (ty:TypeId)
abbrev aH:=Nat->Option Nat
def d6 (m:aH):Option jp->Option Addr->Prop
 |none,At=>At=none|some (.g a),At=>At=some a|some (.l k off),At=>∃b,m k=some b/\At=some ⟨b,off,none⟩
mutual
def Dy (m:aH):af->Value->Prop
 |.int k n,v=>v=.int k n|.bool b,v=>v=.bool b|.str s,v=>v=.string s|.ptr p,v=>∃At,v=.pointer At/\d6 m p At|.slice p n c,v=>∃At,v=.slice At n c/\d6 m p At|.fn f xs ys,v=>∃us vs,v=.func f us vs/\aB m xs us.toList/\aB m ys vs.toList|.agg cs,v=>∃vs,v=.agg vs/\aB m cs vs.toList|.tup cs,v=>∃vs,v=.tuple vs/\aB m cs vs.toList|.raw u,v=>v=u|.any,_=>True
def aB (m:aH):List af->List Value->Prop
 |[],vs=>vs=[]|x::xs,vs=>∃u us,vs=u::us/\Dy m x u/\aB m xs us
end
def aH.le (m m':aH):Prop:=∀k b,m k=some b->m' k=some b
theorem aH.le_refl (m:aH):m.le m:=λ_ _ h=>h
theorem aH.le_trans {a b c:aH} (h:a.le b) (k:b.le c):a.le c:=λi x hx=>k i x (h i x hx)
theorem hlA {m m':aH} (h:m.le m'):∀ {p At},d6 m p At->d6 m' p At
 |none,_,hp=>hp|some (.g _),_,hp=>hp|some (.l _ _),_,⟨b,hb,hq⟩=>⟨b,h _ _ hb,hq⟩
mutual
theorem hr0 {m m':aH} (h:m.le m'):∀ (a:af) (v:Value),Dy m a v->Dy m' a v
 |.int ..,_,U=>by simp[Dy]at U ⊢;exact U
 |.bool ..,_,U=>by simp[Dy]at U ⊢;exact U
 |.str ..,_,U=>by simp[Dy]at U ⊢;exact U
 |.ptr ..,_,U=>by simp[Dy]at U ⊢;let ⟨At,M,N⟩:=U;exact⟨At,M,hlA h N⟩
 |.slice ..,_,U=>by simp[Dy]at U ⊢;let ⟨At,M,N⟩:=U;exact⟨At,M,hlA h N⟩
 |.fn _ xs ys,_,U=>by simp[Dy]at U ⊢;let ⟨us,vs,M,N,h3⟩:=U;exact⟨us,vs,M,cW h xs _ N,cW h ys _ h3⟩
 |.agg cs,_,U=>by simp[Dy]at U ⊢;let ⟨vs,M,N⟩:=U;exact⟨vs,M,cW h cs _ N⟩
 |.tup cs,_,U=>by simp[Dy]at U ⊢;let ⟨vs,M,N⟩:=U;exact⟨vs,M,cW h cs _ N⟩
 |.raw _,_,U=>by simp[Dy]at U ⊢;exact U
 |.any,_,_=>by simp[Dy]
theorem cW {m m':aH} (h:m.le m'):∀ (az:List af) (vs:List Value),aB m az vs->aB m' az vs
 |[],_,U=>by simp[aB]at U ⊢;exact U
 |a::az,_,U=>by simp[aB]at U ⊢;let ⟨u,us,M,N,h3⟩:=U;exact⟨u,us,M,hr0 h a u N,cW h az us h3⟩
end
theorem cU {m:aH}:∀ {az:List af} {vs:List Value},aB m az vs->vs.length=az.length
 |[],_,h=>by simp[aB]at h;subst h;rfl
 |_::_,_,h=>by simp[aB]at h;obtain⟨u,us,rfl,_,h3⟩:=h;simp[cU h3]
theorem jC {m:aH}:∀ {az:List af} {vs:List Value} (i:Nat) {a:af},aB m az vs->az[i]? = some a->∃ v,vs[i]? = some v/\Dy m a v
 |[],_,_,_,_,h=>by simp at h
 |_::_,_,0,_,hr,h=>by simp[aB]at hr;obtain⟨u,us,rfl,N,_⟩:=hr;simp at h;subst h;exact⟨u,rfl,N⟩
 |_::_,_,i+1,_,hr,h=>by
   simp[aB]at hr;obtain⟨u,us,rfl,_,h3⟩:=hr;simp at h
   let ⟨v,U,hr⟩:=jC i h3 h
   exact⟨v,by simpa using U,hr⟩
theorem nZ {m:aH} {az:List af} {vs:List Value} (h:aB m az vs) (i:Nat) (d:Value):Dy m (az.getD i .any) (vs.getD i d):=by
 cases ha:az[i]? with
 |none=>simp[List.getD,ha,Dy]
 |some a=>
   let ⟨v,U,hr⟩:=jC i h ha
   simp[List.getD,ha,U,hr]
theorem kP {m:aH}:∀ {az:List af} {vs:List Value} (i:Nat) {a:af} {v:Value},aB m az vs->Dy m a v->aB m (az.set i a) (vs.set i v)
 |[],_,_,_,_,h,_=>by simp[aB]at h;subst h;simp[aB]
 |_::_,_,0,_,_,hr,h=>by simp[aB]at hr;obtain⟨u,us,rfl,N,h3⟩:=hr;simp only[List.set_cons_zero,aB];exact⟨_,_,rfl,h,h3⟩
 |_::_,_,i+1,_,_,hr,h=>by simp[aB]at hr;obtain⟨u,us,rfl,N,h3⟩:=hr;simp only[List.set_cons_succ,aB];exact⟨_,_,rfl,N,kP i h3 h⟩
theorem ef {m:aH}:∀ {az bs:List af} {us vs:List Value},aB m az us->aB m bs vs->aB m (az++bs) (us++vs)
 |[],_,_,_,h,k=>by simp[aB]at h;subst h;simpa using k
 |_::_,_,_,_,h,k=>by simp[aB]at h;obtain⟨u,us,rfl,N,h3⟩:=h;simp only[Jy,aB];exact⟨_,_,rfl,N,ef h3 k⟩
theorem fT {m:aH}:∀ {az:List af} {vs:List Value} (i:Nat),aB m az vs->aB m (az.take i) (vs.take i)
 |[],_,i,h=>by simp[aB]at h;subst h;simp[aB]
 |_::_,_,0,_=>by simp[aB]
 |_::_,_,i+1,h=>by simp[aB]at h;obtain⟨u,us,rfl,N,h3⟩:=h;simp only[List.take_succ_cons,aB];exact⟨_,_,rfl,N,fT i h3⟩
theorem gG {m:aH}:∀ {az:List af} {vs:List Value} (i:Nat),aB m az vs->aB m (az.drop i) (vs.drop i)
 |[],_,i,h=>by simp[aB]at h;subst h;simp[aB]
 |_::_,_,0,h=>h
 |_::_,_,i+1,h=>by simp[aB]at h;obtain⟨u,us,rfl,N,h3⟩:=h;simp[List.drop_succ_cons];exact gG i h3
theorem gV {m:aH}:∀ (n:Nat) (v:Value),aB m (List.replicate n .any) (List.replicate n v)
 |0,_=>by simp[aB]
 |n+1,v=>by simp only[J8,aB];exact⟨_,_,rfl,by simp[Dy],gV n v⟩
def ng:Value->Bool
 |.agg _|.tuple _=>false|_=>true
def af.cells:af->List af
 |.agg cs=>cs|a=>[a]
def af.one:af->Bool
 |.agg _|.tup _|.any=>false|.raw v=>ng v|_=>true
def af.flat:af->Bool
 |.agg cs=>cs.all af.one|a=>a.one
theorem CN {m:aH} {a:af} {v:Value} (h:Dy m a v) (M:a.one=true):ng v=true:=by
 cases a<;>simp[Dy]at h
 case int=>subst h;rfl
 case bool=>subst h;rfl
 case str=>subst h;rfl
 case ptr=>obtain⟨At,rfl,_⟩:=h;rfl
 case slice=>obtain⟨At,rfl,_⟩:=h;rfl
 case fn=>obtain⟨_,_,rfl,_⟩:=h;rfl
 case raw=>subst h;simpa[af.one] using M
 all_goals simp[af.one]at M
theorem fzb4 {v:Value} (h:ng v=true):v.cells=#[v]:=by cases v<;>simp_all [ng,Value.cells]
theorem nF {m:aH} {a:af} {v:Value} (h:Dy m a v) (M:a.flat=true):aB m a.cells v.cells.toList/\∀ u∈v.cells.toList,ng u=true:=by
 cases a with
 |agg cs=>
   simp[Dy]at h;obtain⟨vs,rfl,N⟩:=h;refine⟨N,?_⟩;simp[af.flat]at M;simp only[Value.cells];generalize vs.toList=l at N;induction cs generalizing l with
   |nil=>simp only[aB]at N;subst N;simp
   |cons c cs ih=>
     simp[aB]at N;obtain⟨u,us,rfl,h3,h4⟩:=N;simp[Gw,Eg]at M;intro x hx;rcases List.mem_cons.1 hx with rfl|hx
     ·exact CN h3 M.1
     ·exact ih M.2 us h4 x hx
 |_=>have h3:=CN h (by simpa[af.flat] using M);rw[fzb4 h3];exact⟨by simp only[af.cells,aB];exact⟨_,_,rfl,h,rfl⟩,by simpa using h3⟩
structure dB where
 w0:World
 wf:World
 own:Nat->Prop
 ds:List Deferred
structure bf (B:dB) (m:aH) (lh:List ar) (w:World):Prop where
 os:w.os=B.wf.os
 tape:w.tape=B.wf.tape
 output:w.output=B.wf.output
 size:B.w0.heap.size<=w.heap.size
 old:∀b,b<B.w0.heap.size->w.heap[b]? = B.w0.heap[b]?
 fsize:B.wf.heap.size<=w.heap.size
 kept:∀b,b<B.wf.heap.size->¬B.own b->w.heap[b]? = B.wf.heap[b]?
 loc:∀k cs ty,lh[k]? = some (.cells cs ty)->∃b vs,m k=some b/\aB m cs vs.toList/\w.heap[b]? = some (.cells vs ty (0,0))/\B.w0.heap.size<=b/\(B.wf.heap.size<=b∨B.own b)
 inj:∀k k' b cs cs' ty ty',lh[k]? = some (.cells cs ty)->lh[k']? = some (.cells cs' ty')->m k=some b->m k'=some b->k=k'
 dom:∀k,lh.length<=k->m k=none
 dead:∀k,lh[k]? = some .dead->m k=none
 rng:∀k b,m k=some b->b<w.heap.size
theorem bf.start (w:World):bf ⟨w,w,λ_=>False,[]⟩ (λ_=>none) [] w :=
 ⟨rfl,rfl,rfl,Em _,λ_ _=>rfl,Em _,λ_ _ _=>rfl,λ_ _ _ h=>by simp at h,λ_ _ _ _ _ _ _ h=>by simp at h,λ_ _=>rfl,λ_ _=>rfl,λ_ _ h=>by cases h⟩
theorem bf.drew {B:dB} {m:aH} {lh:List ar} {w:World} (h:bf B m lh w) (n:Nat):bf B m lh { w with drawn:=n } :=
 ⟨h.os,h.tape,h.output,h.size,h.old,h.fsize,h.kept,h.loc,h.inj,h.dom,h.dead,h.rng⟩
theorem bf.cell {B:dB} {m:aH} {lh:List ar} {w:World} (h:bf B m lh w) {k off:Nat} {cs:List af} {ty:TypeId} {c:af}
 (W:lh[k]? = some (.cells cs ty)) (hc:cs[off]? = some c) {At:Option Addr} (hq:d6 m (some (.l k off)) At) :
 ∃b v,At=some ⟨b,off,none⟩/\m k=some b/\w.cell? ⟨b,off,none⟩=some v/\w.frozen? ⟨b,off,none⟩=false/\Dy m c v:=by
 obtain⟨b,hb,rfl⟩:=hq
 let ⟨b',vs,RQ,RZ,hh,_⟩:=h.loc k cs ty W
 rw[hb]at RQ;cases RQ
 let ⟨v,U,hr⟩:=jC off RZ hc
 refine⟨b,v,rfl,hb,?_,?_,hr⟩
 ·simp[World.cell?,hh];simpa using U
 ·simp[World.frozen?,hh]
theorem bf.cell_g {B:dB} {m:aH} {lh:List ar} {w:World} (h:bf B m lh w) {a:Addr} {v:Value} (hc:B.w0.cell? a=some v):w.cell? a=some v:=by
 have hb:a.block<B.w0.heap.size:=by apply Classical.byContradiction;intro hn;simp[World.cell?,MX (Nat.le_of_not_lt hn)]at hc
 simp[World.cell?,h.old _ hb];exact hc
end Go.Sx
namespace Go.Sx
theorem ht1 {α β:Type} (P:Program):∀ (s:Sem α) (f:α->Sem β) (w:World),(s >>= f).run P w=match s.run P w with
 |.ok a w'=>(f a).run P w'|.halt h w'=>.halt h w':=by
 intro s f;show ∀w,(Sem.bind s f).run P w=_;induction s with
 |pure a=>intro w;rfl
 |load m a k ih=>
   intro w;simp[Sem.bind,Sem.run];split
   ·exact ih _ _
   ·split
    ·exact ih _ _
    ·rfl
 |store m a v k ih=>
   intro w
   cases v<;>simp[Sem.bind,Sem.run]<;>first
    |rfl
    | (split
       ·split
        ·rfl
        ·exact ih _
       ·split
        ·exact ih _
        ·rfl)
 |new o k ih=>intro w;simp[Sem.bind,Sem.run];exact ih _ _|shape r k ih=>intro w;simp[Sem.bind,Sem.run];exact ih _ _|freeze a n k ih=>intro w;simp[Sem.bind,Sem.run];exact ih _|frozen a k ih=>intro w;simp[Sem.bind,Sem.run];exact ih _ _
 |getObj r k ih=>
   intro w;simp[Sem.bind,Sem.run];split
   ·rfl
   ·exact ih _ _
   ·rfl
 |setObj r o k ih=>
   intro w;simp[Sem.bind,Sem.run];split
   ·rfl
   ·exact ih _
   ·rfl
 |choose At k ih=>
   intro w;simp[Sem.bind,Sem.run];split
   ·exact ih _ _
   ·exact ih _ _
 |sys c k ih=>intro w;simp[Sem.bind,Sem.run];exact ih _ _|program k ih=>intro w;simp[Sem.bind,Sem.run];exact ih _ _|mark m k ih=>intro w;simp[Sem.bind,Sem.run];exact ih _|halt h=>intro w;rfl
theorem ae {α β:Type} {P:Program} {s:Sem α} {f:α->Sem β} {w w':World} {a:α} (h:s.run P w=.ok a w'):(s >>= f).run P w=(f a).run P w':=by rw[ht1,h]
theorem bf.put {B:dB} {m:aH} {lh lh':List ar} {w:World} (h:bf B m lh w) {p:Nat} {cs:List af} {ty:TypeId} {vs:Array Value}
 (hp:m p=none) (hl:lh'[p]? = some (.cells cs ty)) (ho:∀k,k ≠ p->lh'[k]? = lh[k]?) (U:aB m cs vs.toList) :
 bf B (λk=>if k=p then some w.heap.size else m k) lh' { w with heap:=w.heap.push (.cells vs ty (0,0)) }/\m.le (λk=>if k=p then some w.heap.size else m k):=by
 have Rb:m.le (λk=>if k=p then some w.heap.size else m k):=λk b W=>by
  have:k≠p:=λe=>by rw[e,hp]at W;cases W
  simp[this,W]
 refine⟨⟨h.os,h.tape,h.output,by have:=h.size;simp;omega,λb hb=>?_,by have:=h.fsize;simp;omega,λb hb Ur=>?_,λk cs' ty' W=>?_,λk k' b cs1 cs2 ty1 En M N hb RQ=>?_,λk W=>?_,λk W=>?_,λk b W=>?_⟩,Rb⟩
 ·have:=h.size;rw[Jp,DX E];exact h.old b hb
 ·have:=h.fsize;rw[Jp,DX E];exact h.kept b hb Ur
 ·by_cases e:k=p
  ·subst e;rw[hl]at W;cases W;exact⟨w.heap.size,vs,av,cW Rb _ _ U,av,h.size,.inl h.fsize⟩
  ·rw[ho k e]at W
   let ⟨b,us,hb,Td,hh,YQ⟩:=h.loc k cs' ty' W
   refine⟨b,us,by simp[e,hb],cW Rb _ _ Td,?_,YQ⟩;have:=h.rng k b hb;show(w.heap.push _)[b]? = _;rw[Jp,DX E];exact hh
 ·by_cases e:k=p<;>by_cases e':k'=p
  ·rw[e,e']
  ·simp[e,H2]at hb;cases hb;simp[e',Gq]at RQ;have:=h.rng k' _ RQ;omega
  ·simp[e',H2]at RQ;cases RQ;simp[e,Gq]at hb;have:=h.rng k _ hb;omega
  ·simp[e,e',Gq]at hb RQ;rw[ho k e]at M;rw[ho k' e']at N;exact h.inj k k' b cs1 cs2 ty1 En M N hb RQ
 ·have e:k≠p:=λe=>by
   subst e;rw[GE W]at hl;cases hl
  simp[e,Gq];apply h.dom;have:=ho k e;rw[GE W]at this;exact List.getElem?_eq_none_iff.1 this.symm
 ·have e:k≠p:=λe=>by subst e;rw[hl]at W;cases W
  simp[e,Gq];exact h.dead k (by rw[← ho k e];exact W)
 ·by_cases e:k=p
  ·simp[e,H2]at W;cases W;simp
  ·simp[e,Gq]at W;have:=h.rng k b W;simp;omega
theorem bf.push {B:dB} {m:aH} {lh:List ar} {w:World} (h:bf B m lh w) {cs:List af} {ty:TypeId} {vs:Array Value} (U:aB m cs vs.toList) :
 bf B (λk=>if k=lh.length then some w.heap.size else m k) (lh++[.cells cs ty]) { w with heap:=w.heap.push (.cells vs ty (0,0)) } /\
  m.le (λk=>if k=lh.length then some w.heap.size else m k) :=
 h.put (h.dom _ (Em _)) av (λk W=>by
  rw[HO];split
  ·rfl
  ·rename_i hn;rw[GE (by simp;omega),GE E]) U
theorem bf.junk {B:dB} {m:aH} {lh:List ar} {w:World} (h:bf B m lh w) (o:Obj):bf B m lh { w with heap:=w.heap.push o } :=
 ⟨h.os,h.tape,h.output,by have:=h.size;simp;omega,λb hb=>by have:=h.size;rw[Jp,DX E];exact h.old b hb,
  by have:=h.fsize;simp;omega,λb hb ho=>by have:=h.fsize;rw[Jp,DX E];exact h.kept b hb ho,
  fun k cs ty W=>by
   let ⟨b,vs,hb,RZ,hh,hs⟩:=h.loc k cs ty W
   have:=h.rng k b hb;exact⟨b,vs,hb,RZ,by rw[Jp,DX E];exact hh,hs⟩,
  h.inj,h.dom,h.dead,λk b W=>by have:=h.rng k b W;simp;omega⟩
theorem bf.set {B:dB} {m:aH} {lh:List ar} {w:World} (h:bf B m lh w) {k off:Nat} {cs:List af} {ty:TypeId} {x:af} {v:Value} {b:Nat}
 (W:lh[k]? = some (.cells cs ty)) (hb:m k=some b) (hx:Dy m x v) :
 bf B m (lh.set k (.cells (cs.set off x) ty)) (w.setCell ⟨b,off,none⟩ v):=by
 let ⟨b',vs,RQ,RZ,hh,hs,UM⟩:=h.loc k cs ty W
 rw[hb]at RQ;cases RQ;have Wy:k<lh.length:=(List.getElem?_eq_some_iff.1 W).1;have hget:∀j,(lh.set k (.cells (cs.set off x) ty))[j]? = if k=j then some (.cells (cs.set off x) ty) else lh[j]? := λj=>by rw[G1];split<;>simp_all
 have hheap:∀ i,(w.setCell ⟨b,off,none⟩ v).heap[i]? = if b=i then some (.cells (vs.setIfInBounds off v) ty (0,0)) else w.heap[i]? := λi=>by
  simp[World.setCell,Array.getElem?_modify];split
  ·rename_i e;subst e;simp[hh]
  ·rfl
 have Rs:(w.setCell ⟨b,off,none⟩ v).heap.size=w.heap.size:=by simp[World.setCell]
 refine⟨h.os,h.tape,h.output,by rw[Rs];exact h.size,λi hi=>?_,by rw[Rs];exact h.fsize,λi hi ho=>?_,λj cs' ty' hj=>?_,λj j' i cs1 cs2 ty1 En M N hi Rk=>?_,λj hj=>?_,λj hj=>?_,λj i hj=>?_⟩
 ·rw[hheap,DX E];exact h.old i hi
 ·rw[hheap,DX (λe=>by subst e;rcases UM with M|M;exact absurd hi E;exact ho M)];exact h.kept i hi ho
 ·rw [hget]at hj
  split at hj
  ·rename_i e;subst e;cases hj;refine⟨b,vs.setIfInBounds off v,hb,?_,by rw[hheap,E5 rfl],hs,UM⟩;rw[Oj];exact kP off RZ hx
  ·rename_i e
   let ⟨i,us,hi,Td,iw13,iy16⟩:=h.loc j cs' ty' hj
   refine⟨i,us,hi,Td,?_,iy16⟩;rw[hheap,DX (λe'=>e (h.inj k j b cs cs' ty ty' W hj hb (by rw[hi,e'])))];exact iw13
 ·have f:∀ {j:Nat} {c:List af} {t:TypeId},(lh.set k (ar.cells (cs.set off x) ty))[j]? = some (ar.cells c t)->∃ c' t',lh[j]? = some (ar.cells c' t'):=λ{j c t} hj=>by
   rw[hget]at hj;split at hj
   ·rename_i e;subst e;exact⟨_,_,W⟩
   ·exact⟨_,_,hj⟩
  let ⟨c1,t1,g1⟩:=f M
  let ⟨c2,t2,g2⟩:=f N
  exact h.inj j j' i c1 c2 t1 t2 g1 g2 hi Rk
 ·exact h.dom j (by simpa using hj)
 ·rw[hget]at hj;split at hj
  ·cases hj
  ·exact h.dead j hj
 ·rw[Rs];exact h.rng j i hj
def wr:List af->Nat->List af->List af
 |cs,_,[]=>cs|cs,off,x::xs=>wr (cs.set off x) (off+1) xs
theorem qe:∀ (xs cs:List af) (off:Nat),(wr cs off xs).length=cs.length
 |[],_,_=>rfl|_::xs,cs,off=>by simp[wr,qe xs]
theorem m6 (b off i:Nat):(⟨b,off,none⟩:Addr).add i=⟨b,off+i,none⟩:=by
 unfold Addr.add;split
 ·rename_i h;subst h;rfl
 ·rfl
theorem hpx {P:Program} {w:World} {a:Addr} {v:Value} {u:Value} (U:ng v=true) (hc:w.cell? a=some u) (hf:w.frozen? a=false):(store a v).run P w=.ok () (w.setCell a v):=by cases v<;>simp_all [store,Sem.run,ng]
theorem bf.stores {B:dB} {m:aH} {P:Program} {k b off:Nat} {ty:TypeId} (hb:m k=some b):∀ (xs:List af) (us:List Value) (cs:List af) (lh:List ar) (w:World) (i:Nat),
 bf B m lh w->lh[k]? = some (.cells cs ty)->off+i+xs.length<=cs.length->aB m xs us->(∀u∈us,ng u=true) ->
 ∃w',(storeCells ⟨b,off,none⟩ us i).run P w=.ok () w'/\bf B m (lh.set k (.cells (wr cs (off+i) xs) ty)) w':=by
 intro xs;induction xs with
 |nil=>
   intro us cs lh w i h W hl hr _;simp[aB]at hr;subst hr;refine⟨w,by unfold storeCells;rfl,?_⟩;have:lh.set k (.cells (wr cs (off+i) []) ty)=lh:=by
    apply Hg;intro j;rw[G1];split
    ·rename_i e;subst e
     let ⟨M,N⟩:=List.getElem?_eq_some_iff.1 W
     simp[wr,M,N]
    ·rfl
   rw[this];exact h
 |cons x xs ih=>
   intro us cs lh w i h W hl hr M;simp[aB]at hr;obtain⟨u,us,rfl,hx,hr⟩:=hr;have Qw:off+i<cs.length:=by simp at hl;omega
   let ⟨b',v,hq,RQ,hc,hf,_⟩:=h.cell W (HU Qw) ⟨b,hb,rfl⟩
   rw[hb]at RQ;cases RQ;have hs:=h.set (off:=off+i) W hb hx;have Wy:k<lh.length:=(List.getElem?_eq_some_iff.1 W).1
   let ⟨w',XB,hrel⟩:=ih us (cs.set (off+i) x) (lh.set k (.cells (cs.set (off+i) x) ty)) (w.setCell ⟨b,off+i,none⟩ u) (i+1) hs (by simp[Wy]) (by simp at hl ⊢;omega) hr (λu' UX=>M u' (HA _ UX))
   refine⟨w',?_,?_⟩
   ·unfold storeCells;rw[m6,ae (hpx (M u Hw) hc hf)];exact XB
   ·rw[List.set_set]at hrel;exact hrel
end Go.Sx
namespace Go.Sx
def bS:Value->af
 |.int k n=>.int k n|.bool b=>.bool b|.string s=>.str s|.pointer none=>.ptr none|.pointer (some a)=>.ptr (some (.g a))|.slice none n c=>.slice none n c|.slice (some a) n c=>.slice (some (.g a)) n c|v=>.raw v
theorem cJ (m:aH) (v:Value):Dy m (bS v) v:=by
 cases v with
 |pointer a=>cases a<;>simp[bS,Dy,d6]|slice a n c=>cases a<;>simp[bS,Dy,d6]|_=>simp[bS,Dy]
def jp.add:jp->Nat->jp
 |.l k off,n=>.l k (off+n)|.g a,n=>.g (a.add n)
theorem sw {m:aH} {p:jp} {At:Option Addr} (h:d6 m (some p) At) (n:Nat):∃ a,At=some a/\d6 m (some (p.add n)) (some (a.add n)):=by
 cases p with
 |l k off=>obtain⟨b,hb,rfl⟩:=h;exact⟨_,rfl,b,hb,by rw[m6]⟩|g a=>simp[d6]at h;subst h;exact⟨a,rfl,rfl⟩
def gT (w0:World) (a:Addr):Nat->Nat->Option (List af)
 |_,0=>some []
 |i,n+1=>match w0.cell? (a.add i),gT w0 a (i+1) n with|some v,some l=>some (bS v::l)|_,_=>none
def lds (w0:World) (lh:List ar):jp->Nat->Option (List af)
 |.l k off,n=>match lh[k]? with
   |some (.cells cs _)=>if off+n<=cs.length then some ((cs.drop off).take n) else none
   |_=>none
 |.g a,n=>gT w0 a 0 n
def ld (w0:World) (lh:List ar):jp->Option af
 |.l k off=>match lh[k]? with|some (.cells cs _)=>cs[off]?|_=>none
 |.g a=>(w0.cell? a).map bS
theorem CX {B:dB} {m:aH} {lh:List ar} {w:World} (h:bf B m lh w) {p:jp} {At:Option Addr} (hq:d6 m (some p) At) {x:af} (hx:ld B.w0 lh p=some x) :
 ∃a v,At=some a/\w.cell? a=some v/\Dy m x v:=by
 cases p with
 |l k off=>
   simp[ld]at hx;split at hx
   ·rename_i cs ty W
    let ⟨b,v,M,_,h3,_,h5⟩:=h.cell W hx hq
    exact⟨_,v,M,h3,h5⟩
   ·cases hx
 |g a=>simp[d6]at hq;subst hq;simp[ld,Fy]at hx;obtain⟨v,U,rfl⟩:=hx;exact⟨a,v,rfl,h.cell_g U,cJ m v⟩
theorem xR {P:Program} {w:World} {a:Addr} {v:Value} (h:w.cell? a=some v):(load a).run P w=.ok v w:=by simp[load,Sem.run,h]
theorem og {P:Program} {w:World} {a:Addr}:∀ (vs:List Value) (i:Nat) (acc:Array Value),(∀ j v,vs[j]? = some v->w.cell? (a.add (i+j))=some v) ->
 (loadCellsFrom a i vs.length acc).run P w=.ok (acc++vs.toArray) w
 |[],i,acc,_=>by simp[loadCellsFrom]
 |v::vs,i,acc,h=>by
   simp only[HC,loadCellsFrom];have h0:w.cell? (a.add i)=some v:=by simpa using h 0 v rfl
   rw[ae (xR h0),og vs (i+1) (acc.push v) (λj u hu=>by have:=h (j+1) u (by simpa using hu);rw[← this];congr 2;omega)];simp
theorem eW {w0:World} {a:Addr}:∀ (n i:Nat) (xs:List af),gT w0 a i n=some xs->∃ vs:List Value,xs=vs.map bS/\vs.length=n/\∀ j v,vs[j]? = some v->w0.cell? (a.add (i+j))=some v
 |0,i,xs,h=>by simp[gT,Et]at h;subst h;exact⟨[],rfl,rfl,λj v U=>by simp at U⟩
 |n+1,i,xs,h=>by
   simp[gT]at h;split at h
   ·rename_i v l U hl
    cases h;obtain⟨vs,rfl,N,h3⟩:=eW n (i+1) l hl;refine⟨v::vs,rfl,by simp[N],λj u hu=>?_⟩;cases j with
    |zero=>simp at hu;subst hu;exact U|succ j=>have:=h3 j u (by simpa using hu);rw[← this];congr 2;omega
   ·cases h
theorem cw (m:aH):∀ vs:List Value,aB m (vs.map bS) vs
 |[]=>by simp[aB]
 |v::vs=>by simp only[GZ,aB];exact⟨_,_,rfl,cJ m v,cw m vs⟩
theorem tQ {B:dB} {m:aH} {lh:List ar} {w:World} {P:Program} (h:bf B m lh w) {p:jp} {At:Option Addr} (hq:d6 m (some p) At) {n:Nat} {xs:List af} (hx:lds B.w0 lh p n=some xs) :
 ∃a vs,At=some a/\(loadCells a n).run P w=.ok vs w/\aB m xs vs.toList:=by
 cases p with
 |l k off=>
   simp[lds]at hx;split at hx
   ·rename_i cs ty W
    split at hx
    ·rename_i Rb
     cases hx;obtain⟨b,hb,rfl⟩:=hq
     let ⟨b',vs,RQ,RZ,hh,_⟩:=h.loc k cs ty W
     rw[hb]at RQ;cases RQ;have hl:=cU RZ;have hr:=fT n (gG off RZ);have hn:((vs.toList.drop off).take n).length=n:=by simp at hl ⊢;omega
     refine⟨_,((vs.toList.drop off).take n).toArray,rfl,?_,by simpa using hr⟩;have:=og (P:=P) (w:=w) (a:=⟨b,off,none⟩) ((vs.toList.drop off).take n) 0 #[] (λj v U=>by
      rw[m6];rw[HW]at U;split at U
      ·rw[Hq]at U;simp[World.cell?,hh];simpa using U
      ·cases U)
     rw[hn]at this;simpa[loadCells] using this
    ·cases hx
   ·cases hx
 |g a=>simp[d6]at hq;subst hq;obtain⟨vs,rfl,N,h3⟩:=eW n 0 xs hx;refine⟨a,vs.toArray,rfl,?_,by simpa using cw m vs⟩;have:=og (P:=P) (w:=w) (a:=a) vs 0 #[] (λj v U=>h.cell_g (h3 j v U));rw[N]at this;simpa[loadCells] using this
inductive gq where|t (i:Nat)|k (v:af)
def arg (sl:List af):gq->af
 |.t i=>sl.getD i .any|.k v=>v
def bh:Operand->gq
 |.tmp t=>.t t|.const v=>.k (bS v)|.global g=>.k (.ptr (some (.g ⟨g,0,none⟩)))|.func f=>.k (.fn (.func f) [] [])
theorem aW {m:aH} {sl:List af} {a:Act} (h:aB m sl a.tmps.toList) (x:Operand):Dy m (arg sl (bh x)) (a.eval x):=by
 cases x with
 |tmp t=>simp[bh,arg,Act.eval];have:=nZ h t undef;simpa using this
 |const v=>exact cJ m v|global g=>simp[bh,arg,Act.eval,Dy,d6]|func f=>simp[bh,arg,Act.eval,Dy,aB]
theorem iD {m:aH} {sl:List af} {a:Act} (h:aB m sl a.tmps.toList):∀ xs:List Operand,aB m ((xs.map bh).map (arg sl)) (xs.map a.eval)
 |[]=>by simp[aB]
 |x::xs=>by simp only[GZ,aB];exact⟨_,_,rfl,aW h x,iD h xs⟩
abbrev b6:=World->List af->List ar->(af->List ar->Prop)->Prop
def jB (lh:List ar) (m:aH) (lh':List ar) (m':aH):Prop:=m.le m'/\∀k,lh[k]? = some .hid->lh'[k]? = some .hid/\m' k=m k
theorem jB.refl (lh:List ar) (m:aH):jB lh m lh m:=⟨aH.le_refl m,λ_ h=>⟨h,rfl⟩⟩
theorem jB.trans {l1 l2 l3:List ar} {m1 m2 m3:aH} (h:jB l1 m1 l2 m2) (k:jB l2 m2 l3 m3):jB l1 m1 l3 m3 :=
 ⟨aH.le_trans h.1 k.1,λj hj=>⟨(k.2 j (h.2 j hj).1).1,((k.2 j (h.2 j hj).1).2).trans (h.2 j hj).2⟩⟩
def afO (P : Program) (f : FuncId) : Prop := ∃ fn, P.funcs[f]? = some fn /\ (fn.name == "runtime.NumGoroutine") = false /\ fn.body.isNone = false
def b6.Sound (P:Program) (f:FuncId) (QZ:b6):Prop :=
 ∀ (B:dB) (m:aH) (lh:List ar) (w:World) (args:List af) (vs:List Value) (K:af->List ar->Prop),bf B m lh w->aB m args vs->QZ B.w0 args lh K ->
  afO P f/\Calls P f vs.toArray w λe w'=>∃v r m' lh',e=.returned v/\Dy m' r v/\jB lh m lh' m'/\bf B m' lh' w'/\K r lh'
def cm:List af->List af->Option Bool
 |[],[]=>some true|.int k a::xs,.int k' b::ys=>if k=k' then(cm xs ys).map (a==b&&·) else none
 |_,_=>none
def dw (P:Program) (t:TypeId):Prop:=P.eqGuardType P.depth t=false/\∀ (n:Nat),(P.info? t).map (·.size)=some n->∀ (xs ys:List af) (us vs:Array Value) (m:aH) (b:Bool) (w:World),xs.length=n->aB m xs us.toList->aB m ys vs.toList->cm xs ys=some b ->
 (Op.equal t (.agg us) (.agg vs)).run P w=.ok b w
inductive lN where
 |mov (x:gq)
 |pick (c a b:gq)
 |new (ty:TypeId) (zero:List af)
 |box (ty:TypeId) (x:gq)
 |agg (zero:List af) (parts:List (Nat×Nat×gq))
 |bsl (ty:TypeId) (len:Nat) (zero:List af) (parts:List (Nat×Nat×gq))
 |ld (a:gq)
 |lds (n:Nat) (a:gq)
 |st (n:Nat) (a x:gq)
 |nz (x:gq)
 |bin (op:BinOp) (x y:gq)
 |eqa (neg:Bool) (n:Nat) (x y:gq)
 |eqb (neg:Bool) (x y:gq)
 |un (op:UnOp) (x:gq)
 |conv (k:IntKind) (x:gq)
 |mkf (fn:Fn) (first caps:List gq)
 |fa (off:Nat) (x:gq)
 |fld (off:Nat) (n:Option Nat) (x:gq)
 |iaA (len esz:Nat) (x ix:gq)
 |iaS (esz:Nat) (x ix:gq)
 |ixA (len esz:Nat) (n:Option Nat) (x ix:gq)
 |ixS (x ix:gq)
 |len (x:gq)
 |lenT (x:gq)
 |lenA (n:Nat)
 |mm (isMax:Bool) (x:gq) (xs:List gq)
 |ext (x:gq) (i:Nat)
 |slS (esz:Nat) (x:gq) (lo hi mx:Option gq)
 |slA (n esz:Nat) (x:gq) (lo hi mx:Option gq)
 |slT (x:gq) (lo hi:Option gq)
 |app (ty:TypeId) (esz bytes:Nat) (zero:List af) (s x:gq)
 |mks (ty:TypeId) (n:Nat) (cells:List af)
 |call (f:FuncId) (args:List gq)
 |callv (x:gq) (args:List gq)
 |isn (neg:Bool) (x:gq)
 |clr (esz:Nat) (z:List af) (x:gq)
end Go.Sx
namespace Go.Sx
def place (pl:Option Nat) (lh:List ar) (o:ar) (K:Nat->List ar->Prop):Prop :=
 match pl with
 |none=>K lh.length (lh++[o])|some p=>lh[p]? = some .dead/\K p (lh.set p o)
def parts (sl:List af):List (Nat×Nat×gq)->List af->(List af->Prop)->Prop
 |[],z,K=>K z|(off,n,x)::ps,z,K=>(arg sl x).flat=true/\(arg sl x).cells.length=n/\off+n<=z.length/\parts sl ps (wr z off (arg sl x).cells) K
def tD (op:BinOp) (k:IntKind) (a b:Int) (K:af->Prop):Prop :=
 match op with
 |.add=>K (.int k (k.wrap (a+b)))|.sub=>K (.int k (k.wrap (a-b)))|.mul=>K (.int k (k.wrap (a*b)))|.quo=>b≠0/\K (.int k (k.wrap (a.tdiv b)))|.rem=>b≠0/\K (.int k (a.tmod b))|.eql=>K (.bool (a==b))|.neq=>K (.bool (a !=b))|.lss=>K (.bool (decide (a<b)))|.leq=>K (.bool (decide (a<=b)))|.gtr=>K (.bool (decide (b<a)))|.geq=>K (.bool (decide (b<=a)))|.and=>K (.int k (bits .and k a b))|.or=>K (.int k (bits .or k a b))|.xor=>K (.int k (bits .xor k a b))|.shl=>0<=b/\K (.int k (k.wrap (a*2 ^ min b.toNat k.bits)))|.shr=>0<=b/\K (.int k (a.fdiv (2 ^ min b.toNat k.bits)))|_=>False
def Cm (op:BinOp) (a b:ByteArray) (K:af->Prop):Prop :=
 match op with
 |.eql=>K (.bool (a.toList==b.toList))|.neq=>K (.bool !(a.toList==b.toList))|.add=>((a.size+b.size:Nat):Int)<=IntKind.i64.max/\K (.str (a++b))|_=>False
def Qs (op:BinOp) (x y:af) (K:af->Prop):Prop :=
 match x,y with
 |.int k a,.int k' b=>k=k'/\tD op k a b K|.str a,.str b=>Cm op a b K|_,_=>False
def bnd (x:Option af) (y d:Nat) (K:Nat->Prop):Prop :=
 match x with
 |none=>K d|some (.int _ i)=>0<=i/\i<=y/\K i.toNat|_=>False
def mm2 (isMax:Bool):af->List af->(af->Prop)->Prop
 |x,[],K=>K x|.int k a,.int k' b::xs,K=>k=k'/\mm2 isMax (.int k (if isMax then max a b else min a b)) xs K|_,_,_=>False
def cellsOf (w0:World) (lh:List ar) (p:Option jp) (n:Nat):Option (List af) :=
 match p with
 |none=>some []|some p=>lds w0 lh p n
def tp (w0:World) (lh:List ar) (pl:Option Nat) (ty:TypeId) (esz bytes:Nat) (zero:List af) (K:af->List ar->Prop):af->af->Prop
 |.slice p n c,.slice At k _=>
   ∃ new, cellsOf w0 lh At (k*esz)=some new /\
    (n+k<=c->match p with
      | some (.l b off)=>∃ cs t,lh[b]? = some (.cells cs t)/\new.all af.one=true/\off+n*esz+new.length<=cs.length /\
         K (.slice (some (.l b off)) (n+k) c) (lh.set b (.cells (wr cs (off+n*esz) new) t))
      |none=>K (.slice none (n+k) c) lh|some (.g a)=>new=[]/\K (.slice (some (.g a)) (n+k) c) lh) /\
    (c<n+k->∃ old,cellsOf w0 lh p (n*esz)=some old/\Builtin.nextslicecap (n+k) c*bytes<=2 ^ 48/\(((n+k:Nat):Int)<=IntKind.i64.max∨bytes≠0) /\
      ∀c',n+k<=c'->place pl lh (.cells (old++new++(List.replicate (c'-(n+k)) zero).flatten) ty) λb lh'=>K (.slice (some (.l b 0)) (n+k) c') lh')
 |_,_=>False
def dv (w0:World) (QZ:FuncId->b6) (sl:List af) (lh:List ar) (pl:Option Nat) (K:af->List ar->Prop):lN->Prop
 |.mov x=>K (arg sl x) lh
 |.pick c a b=>match arg sl c with
   |.bool t=>(t=true->K (arg sl a) lh)/\(t=false->K (arg sl b) lh)
   |_=>False
 |.new ty z=>place pl lh (.cells z ty) λp lh'=>K (.ptr (some (.l p 0))) lh'
 |.box ty x=>(arg sl x).flat=true/\place pl lh (.cells (arg sl x).cells ty) λp lh'=>K (.ptr (some (.l p 0))) lh'
 |.agg z ps=>parts sl ps z λcs=>K (.agg cs) lh
 |.bsl ty n z ps=>parts sl ps z λcs=>place pl lh (.cells cs ty) λp lh'=>K (.slice (some (.l p 0)) n n) lh'
 |.ld a=>match arg sl a with
   |.ptr (some p)=>∃v,ld w0 lh p=some v/\K v lh
   |_=>False
 |.lds n a=>match arg sl a with
   |.ptr (some p)=>∃cs,lds w0 lh p n=some cs/\K (.agg cs) lh
   |_=>False
 |.st n a x=>match arg sl a with
   | .ptr (some (.l k off))=>∃ cs ty,lh[k]? = some (.cells cs ty)/\(arg sl x).flat=true/\(arg sl x).cells.length=n/\off+n<=cs.length /\
      K (.tup []) (lh.set k (.cells (wr cs off (arg sl x).cells) ty))
   |_=>False
 |.nz x=>match arg sl x with
   |.ptr (some p)=>K (.ptr (some p)) lh
   |.fn (.func f) a b=>K (.fn (.func f) a b) lh
   |_=>False
 |.bin op x y=>Qs op (arg sl x) (arg sl y) λv=>K v lh
 |.eqa neg n x y=>match arg sl x,arg sl y with
   |.agg xs,.agg ys=>xs.length=n/\∃b,cm xs ys=some b/\K (.bool (if neg then !b else b)) lh
   |_,_=>False
 |.eqb neg x y=>match arg sl x,arg sl y with
   |.bool a,.bool b=>K (.bool (if neg then !(a==b) else a==b)) lh
   |_,_=>False
 |.un op x=>match op,arg sl x with
   |.neg,.int k n=>K (.int k (k.wrap (0-n))) lh
   |.not,.bool b=>K (.bool !b) lh
   |_,_=>False
 |.conv k x=>match arg sl x with
   |.int _ n=>K (.int k (k.wrap n)) lh
   |_=>False
 |.mkf f xs ys=>K (.fn f (xs.map (arg sl)) (ys.map (arg sl))) lh
 |.fa off x=>match arg sl x with
   |.ptr (some p)=>K (.ptr (some (p.add off))) lh
   |_=>False
 |.fld off n x=>match arg sl x with
   |.agg cs=>match n with
     |some n=>K (.agg ((cs.drop off).take n)) lh
     |none=>∃v,cs[off]? = some v/\K v lh
   |_=>False
 |.iaA n esz x ix=>match arg sl x,arg sl ix with
   |.ptr (some p),.int _ i=>0<=i/\i<n/\K (.ptr (some (p.add (i.toNat*esz)))) lh
   |_,_=>False
 |.iaS esz x ix=>match arg sl x,arg sl ix with
   |.slice p n _,.int _ i=>0<=i/\i<n/\∃At,p=some At/\K (.ptr (some (At.add (i.toNat*esz)))) lh
   |_,_=>False
 |.ixA n esz sz x ix=>match arg sl x,arg sl ix with
   |.agg cs,.int _ i=>0<=i/\i<n/\match sz with
     |some sz=>K (.agg ((cs.drop (i.toNat*esz)).take sz)) lh
     |none=>∃v,cs[i.toNat*esz]? = some v/\K v lh
   |_,_=>False
 |.ixS x ix=>match arg sl x,arg sl ix with
   |.str s,.int _ i=>0<=i/\i<s.size/\K (.int .u8 ((s.data.toList.getD i.toNat 0).toNat:Int)) lh
   |_,_=>False
 |.len x=>match arg sl x with
   |.slice _ n _=>K (.int .i64 n) lh
   |_=>False
 |.lenT x=>match arg sl x with
   |.str s=>K (.int .i64 s.size) lh
   |_=>False
 |.lenA n=>K (.int .i64 n) lh
 |.mm b x xs=>mm2 b (arg sl x) (xs.map (arg sl)) λv=>K v lh
 |.ext x i=>match arg sl x with
   |.tup vs=>∃v,vs[i]? = some v/\K v lh
   |_=>False
 |.slS esz x lo hi mx=>match arg sl x with
   |.slice p n c=>bnd (mx.map (arg sl)) c c λm=>bnd (hi.map (arg sl)) m n λh=>bnd (lo.map (arg sl)) h 0 λl=>
      K (.slice (if m=l then p else p.map (jp.add · (l*esz))) (h-l) (m-l)) lh
   |_=>False
 |.slA n esz x lo hi mx=>match arg sl x with
   |.ptr (some p)=>bnd (mx.map (arg sl)) n n λm=>bnd (hi.map (arg sl)) m n λh=>bnd (lo.map (arg sl)) h 0 λl=>
      K (.slice (some (if m=l then p else p.add (l*esz))) (h-l) (m-l)) lh
   |_=>False
 |.slT x lo hi=>match arg sl x with
   |.str s=>bnd (hi.map (arg sl)) s.size s.size λh=>bnd (lo.map (arg sl)) h 0 λl=>K (.str (s.extract l h)) lh
   |_=>False
 |.app ty esz bytes zero s x=>tp w0 lh pl ty esz bytes zero K (arg sl s) (arg sl x)
 |.mks ty n cs=>place pl lh (.cells cs ty) λp lh'=>K (.slice (some (.l p 0)) n n) lh'
 |.call f xs=>QZ f w0 (xs.map (arg sl)) lh K
 |.callv x xs=>match arg sl x with
   |.fn (.func f) a b=>QZ f w0 (a++xs.map (arg sl)++b) lh K
   |_=>False
 |.isn neg x=>match arg sl x with
   |.slice p _ _=>K (.bool (if neg then !p.isNone else p.isNone)) lh
   |_=>False
 |.clr esz z x=>match arg sl x with
   |.slice (some (.l k off)) n _=>∃cs ty,lh[k]? = some (.cells cs ty)/\n≠0/\off+n*esz<=cs.length/\K (.tup []) (lh.set k (.cells (wr cs off (List.replicate n z).flatten) ty))
   |.slice _ n _=>n=0/\K (.tup []) lh
   |_=>False
def da (P:Program) (o:Oper) (a:Act) (w:World) (RJ:Value->World->Prop):Prop :=
 (∃v w',(execOp a.eval o).run P w=.ok (.value v) w'/\RJ v w') ∨
 (∃w',(execOp a.eval o).run P w=.ok .skip w'/\RJ undef w') ∨
 (∃f args,(execOp a.eval o).run P w=.ok (.enter f args) w/\Calls P f args w λe w'=>∃v,e=.returned v/\RJ v w')
theorem be {P:Program} {o:Oper} {a:Act} {w w':World} {RJ:Value->World->Prop} {s:Sem Value} {v:Value}
 (he:execOp a.eval o=(do pure (.value (← s)))) (hs:s.run P w=.ok v w') (hR:RJ v w'):da P o a w RJ :=
 .inl ⟨v,w',by rw[he,ae hs];rfl,hR⟩
theorem hor {P:Program} {o:Oper} {a:Act} {w w':World} {RJ:Value->World->Prop} {s:Sem Unit}
 (he:execOp a.eval o=(do s;pure .skip)) (hs:s.run P w=.ok () w') (hR:RJ undef w'):da P o a w RJ :=
 .inr (.inl ⟨w',by rw[he,ae hs];rfl,hR⟩)
def El (B:dB) (m:aH) (lh:List ar) (K:af->List ar->Prop) (v:Value) (w:World):Prop :=
 ∃r m' lh',Dy m' r v/\jB lh m lh' m'/\bf B m' lh' w/\K r lh'
theorem El.same {B:dB} {m:aH} {lh:List ar} {w:World} {K:af->List ar->Prop} {v:Value} {r:af} (h:bf B m lh w) (hr:Dy m r v) (hK:K r lh):El B m lh K v w :=
 ⟨r,m,lh,hr,jB.refl lh m,h,hK⟩
theorem nm4 {lh:List ar} {m:aH} {k:Nat} {o o':ar} (W:lh[k]? = some o) (ho:o≠.hid):jB lh m (lh.set k o') m :=
 ⟨aH.le_refl m,λj hj=>⟨by rw[G1,DX (λe=>by subst e;rw[W]at hj;cases hj;exact ho rfl)];exact hj,rfl⟩⟩
theorem El.store {B:dB} {m:aH} {lh:List ar} {w:World} {K:af->List ar->Prop} {v:Value} {r:af} {k:Nat} {cs:List af} {ty:TypeId} {o':ar} (W:lh[k]? = some (.cells cs ty)) (h:bf B m (lh.set k o') w)
 (hr:Dy m r v) (hK:K r (lh.set k o')):El B m lh K v w :=
 ⟨r,m,_,hr,nm4 W av,h,hK⟩
theorem iJ {B:dB} {m:aH} {lh:List ar} {w:World} {pl:Option Nat} {cs:List af} {ty:TypeId} {vs:Array Value} {K:Nat->List ar->Prop}
 (h:bf B m lh w) (U:aB m cs vs.toList) (hp:place pl lh (.cells cs ty) K) :
 ∃p m' lh',m' p=some w.heap.size/\jB lh m lh' m'/\bf B m' lh' { w with heap:=w.heap.push (.cells vs ty (0,0)) }/\K p lh':=by
 cases pl with
 |none=>obtain⟨M,N⟩:=h.push (ty:=ty) U;refine⟨_,_,_,av,⟨N,λk W=>?_⟩,M,hp⟩;have Qw:k<lh.length:=(List.getElem?_eq_some_iff.1 W).1;exact⟨by rw[Fp Qw];exact W,by simp[JI Qw]⟩
 |some p=>
   obtain⟨hd,hK⟩:=hp;obtain⟨M,N⟩:=h.put (p:=p) (lh':=lh.set p (.cells cs ty)) (ty:=ty) (h.dead p hd) (by simp[(List.getElem?_eq_some_iff.1 hd).1]) (λk W=>by simp[W.symm]) U;refine⟨_,_,_,av,⟨N,λk W=>?_⟩,M,hK⟩;have SQ:k≠p:=λe=>by subst e;rw[hd]at W;cases W
   exact⟨by rw[G1,DX SQ.symm];exact W,by simp[SQ]⟩
end Go.Sx
namespace Go.Sx
def yM:TypeDesc->Bool
 |.struct _|.array _ _=>true|_=>false
def qF (P:Program) (t:TypeId):Option (Option Nat) :=
 match P.underlying t,P.info? t with
 |some d,some i=>some (if yM d then some i.size else none)|_,_=>none
def q8 (P:Program) (t:TypeId):Option (Array Value):=((P.info? t).bind (·.zero)).map (·.cells)
def ep (P:Program) (t:TypeId):Option Nat:=(P.info? t).map (·.size)
def hin (P:Program) (fs:Array Field):Option (List (Nat×Nat)):=fs.toList.mapM λf=>(ep P f.type).map λn=>(f.offset,n)
def pF (pls:Nat->Option (Nat×Nat)):List (Nat×Operand)->Option (List (Nat×Nat×gq))
 |[]=>some []
 |(i,x)::ps=>match pls i,pF pls ps with|some (off,n),some l=>some ((off,n,bh x)::l)|_,_=>none
def vK:Operand->Bool
 |.const (.slice none 0 0)=>true|_=>false
def hiy (P:Program) (b:Builtin) (ts:Array TypeId) (xs:List Operand):Option lN :=
 match b,ts.toList,xs with
 |.len,[t],[x]=>match P.underlying t with|some (.slice _)=>some (.len (bh x))|some .string=>some (.lenT (bh x))|some (.array n _)=>some (.lenA n)|_=>none
 |.max,_,x::y::xs=>some (.mm true (bh x) ((y::xs).map bh))|.min,_,x::y::xs=>some (.mm false (bh x) ((y::xs).map bh))
 |.append,[t,u],[s,x]=>match P.underlying t,P.underlying u with
   |some (.slice e),some (.slice _)=>match P.info? e with
     |some i=>match i.zero with
       |some z=>if z.cells.size=i.size&&z.cells.size !=0 then some (.app e i.size i.bytes (z.cells.toList.map bS) (bh s) (bh x)) else none
       |none=>none
     |none=>none
   |_,_=>none
 |.clear,[t],[x]=>match P.underlying t with
   |some (.slice e)=>match P.info? e with
     |some i=>match i.zero with
       |some z=>if z.cells.size=i.size&&z.cells.toList.all ng then some (.clr i.size (z.cells.toList.map bS) (bh x)) else none
       |none=>none
     |none=>none
   |_=>none
 |_,_,_=>none
def ahP (P:Program) (t:TypeId) (x y:Operand):Option lN :=
 match x,y,P.underlying t with
 |.const (.int _ n),.const (.int _ c),some (.slice e)=>match P.info? e with
   |some i=>match i.zero with
     | some z=>if n=c&&0<n&&n<=1000&&(i.bytes:Int)*n<=2 ^ 40&&i.size != 0 then
        some (.mks e n.toNat (((List.range (n.toNat*i.size)).map (z.cells[· % z.cells.size]!)).map bS)) else none
     |none=>none
   |none=>none
 |_,_,_=>none
def JB:lN:=.ext (.k (.int .i64 0)) 0
def jA (P:Program) (BN:List TypeId) (o:Oper):Option lN :=
 match o.op with
 |.move x=>some (.mov (bh x))
 |.assign x=>some (.mov (bh x))
 |.pick c a b=>some (.pick (bh c) (bh a) (bh b))
 |.alloc t=>(q8 P t).map λz=>.new t (z.toList.map bS)
 |.box t x=>some (.box t (bh x))
 |.build t ps=>match P.underlying t,q8 P t with
   |some (.struct fs),some z=>match hin P fs with
     |some pls=>(pF (pls[·]?) ps.toList).map (.agg (z.toList.map bS))
     |none=>none
   |some (.array _ e),some z=>match ep P e with
     |some n=>(pF (λi=>some (i*n,n)) ps.toList).map (.agg (z.toList.map bS))
     |none=>none
   |_,_=>none
 |.buildSlice t len ps=>match P.underlying t with
   |some (.slice e)=>match ep P e,q8 P e with
     | some n,some z=>if len*n<=2 ^ 24&&(len*n != 0||z.size==0) then
        (pF (λi=>some (i*n,n)) ps.toList).map (.bsl e len (((List.range (len*n)).map (z[· % z.size]!)).map bS)) else if len*n=0 then(pF (λi=>some (i*n,n)) ps.toList).map (.bsl e len []) else none
     |_,_=>none
   |_=>none
 |.load t a=>match qF P t with
   |some (some n)=>some (.lds n (bh a))
   |some none=>some (.ld (bh a))
   |none=>none
 |.store t a x=>(ep P t).map λn=>.st n (bh a) (bh x)
 |.nilCheck x=>some (.nz (bh x))
 |.binOp op t x y _=>match op,P.underlying t with
   |.eql,some .bool=>some (.eqb false (bh x) (bh y))
   |.neq,some .bool=>some (.eqb true (bh x) (bh y))
   |.eql,some (.struct _)|.eql,some (.array _ _)=>if BN.contains t then(ep P t).map λn=>.eqa false n (bh x) (bh y) else none
   |.neq,some (.struct _)|.neq,some (.array _ _)=>if BN.contains t then(ep P t).map λn=>.eqa true n (bh x) (bh y) else none
   |op,some (.int _)|op,some .string=>some (.bin op (bh x) (bh y))
   |.eql,some (.slice _)=>if vK y then some (.isn false (bh x)) else none
   |.neq,some (.slice _)=>if vK y then some (.isn true (bh x)) else none
   |_,_=>none
 |.unOp op _ x=>some (.un op (bh x))
 |.convert s d x=>match P.underlying s,P.underlying d with
   |some _,some (.int k)=>some (.conv k (bh x))
   |_,_=>none
 |.makeFunc f xs ys=>some (.mkf f (xs.toList.map bh) (ys.toList.map bh))
 |.fieldAddr t x i=>match P.underlying t with
   |some (.struct fs)=>match fs[i]? with
     |some f=>match ep P f.type with
       |some n=>if n=0 then none else some (.fa f.offset (bh x))
       |none=>none
     |none=>none
   |_=>none
 |.field t x i=>match P.underlying t with
   |some (.struct fs)=>match fs[i]? with
     |some f=>(qF P f.type).map λn=>.fld f.offset n (bh x)
     |none=>none
   |_=>none
 |.indexAddr t x ix=>match P.underlying t with
   |some (.array n e)=>(ep P e).map λs=>.iaA n s (bh x) (bh ix)
   |some (.slice e)=>(ep P e).map λs=>.iaS s (bh x) (bh ix)
   |_=>none
 |.index t x ix=>match P.underlying t with
   |some (.array n e)=>match ep P e,qF P e with
     |some s,some a=>some (.ixA n s a (bh x) (bh ix))
     |_,_=>none
   |some .string=>some (.ixS (bh x) (bh ix))
   |_=>none
 |.extract x i=>some (.ext (bh x) i)
 |.slice t x lo hi mx=>if mx.isSome&&!hi.isSome then none else match P.underlying t with
   |some (.slice e)=>(ep P e).map λs=>.slS s (bh x) (lo.map bh) (hi.map bh) (mx.map bh)
   |some (.array n e)=>(ep P e).map λs=>.slA n s (bh x) (lo.map bh) (hi.map bh) (mx.map bh)
   |some .string=>if mx.isSome then none else some (.slT (bh x) (lo.map bh) (hi.map bh))
   |_=>none
 |.makeSlice t x y=>ahP P t x y
 |.makeInterface ..=>some JB
 |.panic _=>some JB
 |.call c=>match c.callee with
   |.value (.func f)=>match P.funcs[f]? with
     |some fn => if fn.name == "runtime.NumGoroutine" || fn.body.isNone then none else some (.call f (c.args.toList.map bh))
     |none=>none
   |.value x=>some (.callv (bh x) (c.args.toList.map bh))
   |.builtin b=>hiy P b c.argTypes c.args.toList
   |_=>none
 |_=>none
section
variable {P:Program} {B:dB} {QZ:FuncId->b6} {m:aH} {sl:List af} {lh:List ar} {w:World} {a:Act} {o:Oper} {pl:Option Nat} {K:af->List ar->Prop}
theorem aJ {t:TypeId} {d:TypeDesc} (h:P.underlying t=some d) (w:World):(underlying t).run P w=.ok d w:=by unfold underlying;rw[ae (a:=P) (w':=w) rfl];simp only[h];rfl
theorem eg {t:TypeId} {i:TypeInfo} (h:P.info? t=some i) (w:World):(typeInfo t).run P w=.ok i w:=by unfold typeInfo;rw[ae (a:=P) (w':=w) rfl];have h':P.toTables.info? t=some i:=h;simp only[h'];rfl
theorem run_sizeOf {t:TypeId} {n:Nat} (h:ep P t=some n) (w:World):(sizeOf t).run P w=.ok n w:=by simp[ep,Fy]at h;obtain⟨i,hi,rfl⟩:=h;unfold sizeOf;rw[ae (eg hi w)];rfl
theorem jF {t:TypeId} {z:Array Value} (h:q8 P t=some z) (w:World):∃v,v.cells=z/\(zeroValue t).run P w=.ok v w:=by simp only[q8,Fy,Option.bind_eq_some_iff]at h;obtain⟨v,⟨i,hi,U⟩,rfl⟩:=h;refine⟨v,rfl,?_⟩;unfold zeroValue;rw[ae (eg hi w)];simp only[U];rfl
theorem kU {t:TypeId} {d:TypeDesc} (h:P.underlying t=some d) (w:World):(isAgg t).run P w=.ok (yM d) w:=by unfold isAgg;rw[ae (aJ h w)];cases d<;>rfl
theorem kX {t:TypeId} {n:Option Nat} (h:qF P t=some n):∃ d,P.underlying t=some d/\((yM d=true/\∃ k,n=some k/\ep P t=some k)∨(yM d=false/\n=none)):=by
 unfold qF at h;split at h
 ·rename_i d i hd hi
  cases h;refine⟨d,hd,?_⟩;cases e:yM d
  ·exact .inr ⟨rfl,rfl⟩
  ·exact .inl ⟨rfl,i.size,av,by simp[ep,hi]⟩
 ·cases h
theorem C67 {x:Operand} (ho:o.op=.move x∨o.op=.assign x) (hs:aB m sl a.tmps.toList) (h:bf B m lh w) (U:dv B.w0 QZ sl lh pl K (.mov (bh x))):da P o a w (El B m lh K) :=
 .inl ⟨a.eval x,w,by rcases ho with ho|ho<;>(simp only[execOp,ho];rfl),El.same h (aW hs x) U⟩
theorem jx {m:aH} {b:Bool} {v:Value} (h:Dy m (.bool b) v):v=.bool b:=by simpa[Dy] using h
theorem gf {m:aH} {k:IntKind} {n:Int} {v:Value} (h:Dy m (.int k n) v):v=.int k n:=by simpa[Dy] using h
theorem o9 {m:aH} {s:ByteArray} {v:Value} (h:Dy m (.str s) v):v=.string s:=by simpa[Dy] using h
theorem hs' {c x y:Operand} (ho:o.op=.pick c x y) (hs:aB m sl a.tmps.toList) (h:bf B m lh w) (U:dv B.w0 QZ sl lh pl K (.pick (bh c) (bh x) (bh y))):da P o a w (El B m lh K):=by
 have hc:=aW hs c;simp[dv]at U;split at U
 ·rename_i t ht
  rw[ht]at hc;have hc:=jx hc;refine .inl ⟨if t then a.eval x else a.eval y,w,?_,?_⟩
  ·simp only[execOp,ho,hc,asBool];rfl
  ·cases t
   ·exact El.same h (aW hs y) (U.2 rfl)
   ·exact El.same h (aW hs x) (U.1 rfl)
 ·exact U.elim
theorem hjf {t:TypeId} {v:Value} (w:World):(newVar t v).run P w=.ok ⟨w.heap.size,0,none⟩ { w with heap:=w.heap.push (.cells v.cells t (0,0)) }:=rfl
theorem lf {t:TypeId} {c:Array Value} (w:World):(newRow t c).run P w=.ok ⟨w.heap.size,0,none⟩ { w with heap:=w.heap.push (.cells c t (0,0)) }:=rfl
theorem ie2 {t:TypeId} {z:Array Value} (ho:o.op=.alloc t) (hz:q8 P t=some z) (h:bf B m lh w) (U:dv B.w0 QZ sl lh pl K (.new t (z.toList.map bS))):da P o a w (El B m lh K):=by
 let ⟨v,XA,hrun⟩:=jF hz w
 simp[dv]at U
 let ⟨p,m',lh',M,N,h3,h4⟩:=iJ h (vs:=z) (cw m z.toList) U
 refine be (s:=Instr.alloc t true (.tuple #[])) (v:=.pointer (some ⟨w.heap.size,0,none⟩)) (by simp[execOp,ho]) ?_ ⟨_,m',lh',?_,N,h3,h4⟩
 ·unfold Instr.alloc;rw[ae hrun];show(do pure (Value.pointer (some (← newVar t v))):Sem Value).run P w=_;rw[ae (hjf w),XA];rfl
 ·simp only[Dy];exact⟨_,rfl,_,M,rfl⟩
theorem im0 {t:TypeId} {x:Operand} (ho:o.op=.box t x) (hs:aB m sl a.tmps.toList) (h:bf B m lh w) (U:dv B.w0 QZ sl lh pl K (.box t (bh x))):da P o a w (El B m lh K):=by
 simp[dv]at U
 let ⟨hf,U⟩:=U
 let ⟨hc,_⟩:=nF (aW hs x) hf
 let ⟨p,m',lh',M,N,h3,h4⟩:=iJ h hc U
 refine be (s:=Instr.box t (a.eval x)) (v:=.pointer (some ⟨w.heap.size,0,none⟩)) (by simp[execOp,ho]) ?_ ⟨_,m',lh',?_,N,h3,h4⟩
 ·unfold Instr.box;rw[ae (hjf w)];rfl
 ·simp only[Dy];exact⟨_,rfl,_,M,rfl⟩
theorem hmk (off:Nat):∀ (l:List Value) (j:Nat) (cs:Array Value),((l.zipIdx j).foldl (λ(cs:Array Value) (p:Value×Nat)=>cs.setIfInBounds (off+p.2) p.1) cs).toList =
 (l.foldl (λ(acc:List Value×Nat) v=>(acc.1.set acc.2 v,acc.2+1)) (cs.toList,off+j)).1
 |[],_,_=>rfl
 |v::l,j,cs=>by simp[List.zipIdx_cons,List.foldl_cons];rw[hmk off l (j+1)];simp[Oj];rfl
theorem DT {m:aH}:∀ (xs:List af) (us:List Value) (cs:List af) (vs:List Value) (off:Nat),aB m xs us->aB m cs vs ->
 aB m (wr cs off xs) (us.foldl (λ(acc:List Value×Nat) v=>(acc.1.set acc.2 v,acc.2+1)) (vs,off)).1
 |[],us,cs,vs,off,hx,hc=>by simp[aB]at hx;subst hx;exact hc
 |x::xs,us,cs,vs,off,hx,hc=>by simp[aB]at hx;obtain⟨u,us,rfl,M,N⟩:=hx;simp[wr,List.foldl_cons];exact DT xs us _ _ _ N (kP off hc M)
theorem j9 {pls:Nat->Option (Nat×Nat)} (hs:aB m sl a.tmps.toList):∀ (ps:List (Nat×Operand)) (qs:List (Nat×Nat×gq)) (z:List af) (zs:Array Value) (K:List af->Prop),
 pF pls ps=some qs->aB m z zs.toList->parts sl qs z K->∃cs vs,Instr.fill pls zs (ps.map λ(i,x)=>(i,a.eval x))=some vs/\aB m cs vs.toList/\K cs
 |[],qs,z,zs,K,hc,hz,hp=>by simp[pF,Et]at hc;subst hc;exact⟨z,zs,by simp[Instr.fill],hz,hp⟩
 |(i,x)::ps,qs,z,zs,K,hc,hz,hp=>by
   simp[pF]at hc;split at hc
   ·rename_i off n l T8 hl
    cases hc;simp[parts]at hp
    let ⟨hf,hn,Rb,hp⟩:=hp
    let ⟨M,_⟩:=nF (aW hs x) hf
    have Yc:=cU M;have tZ:=cU hz;simp[Jo]at Yc tZ;have hw:=DT _ _ _ _ off M hz;rw[show off=off+0 from rfl,← hmk off _ 0 zs]at hw
    let ⟨cs,vs,h3,h4,h5⟩:=j9 hs ps l (wr z off (arg sl (bh x)).cells) _ K hl hw hp
    refine⟨cs,vs,?_,h4,h5⟩;simp only[GZ,Instr.fill,T8];rw[DX (by simp;omega)];rw[← h3];congr 1;rw[← Array.foldl_toList,Array.toList_zipIdx]
   ·cases hc
theorem hij:∀ (fs:List Field) (pls:List (Nat×Nat)),(fs.mapM λf=>(ep P f.type).map λn=>(f.offset,n))=some pls->∀ w,
 (fs.mapM (m:=Sem) λf=>do pure (f.offset,← sizeOf f.type)).run P w=.ok pls w
 |[],pls,h,w=>by simp at h;subst h;rfl
 |f::fs,pls,h,w=>by simp only[KG,Option.pure_def,Option.bind_eq_bind,Option.bind_eq_some_iff,Fy,Et]at h;obtain⟨a,⟨n,hn,rfl⟩,l,hl,rfl⟩:=h;simp only[KG];rw[ae (a:=(f.offset,n)) (w':=w) (by rw[ae (run_sizeOf hn w)];rfl)];rw[ae (hij fs l hl w)];rfl
end
end Go.Sx
namespace Go.Sx
section
variable {P:Program} {B:dB} {QZ:FuncId->b6} {m:aH} {sl:List af} {lh:List ar} {w:World} {a:Act} {o:Oper} {pl:Option Nat} {K:af->List ar->Prop}
theorem rU {cs:List af} {v:Value} (h:Dy m (.agg cs) v):∃vs,v=.agg vs/\aB m cs vs.toList:=by simpa[Dy] using h
theorem jS {p:Option jp} {v:Value} (h:Dy m (.ptr p) v):∃At,v=.pointer At/\d6 m p At:=by simpa[Dy] using h
theorem gH {p:Option jp} {n c:Nat} {v:Value} (h:Dy m (.slice p n c) v):∃At,v=.slice At n c/\d6 m p At:=by simpa[Dy] using h
theorem hlW {p:jp} {At:Option Addr} (h:d6 m (some p) At):∃ a,At=some a/\d6 m (some p) (some a):=by
 cases p with
 |l k off=>obtain⟨b,hb,rfl⟩:=h;exact⟨_,rfl,b,hb,rfl⟩|g a=>simp[d6]at h;subst h;exact⟨a,rfl,rfl⟩
theorem fy22 {fs:Array Field} {pls:List (Nat×Nat)} (h:hin P fs=some pls) (w:World) :
 (fs.mapM (m:=Sem) λf=>do pure (f.offset,← sizeOf f.type)).run P w=.ok pls.toArray w:=by
 have M:=hij (P:=P) fs.toList pls h w;have e:(fs.mapM (m:=Sem) λf=>do pure (f.offset,← sizeOf f.type))=(do pure (← fs.toList.mapM (m:=Sem) λf=>do pure (f.offset,← sizeOf f.type)).toArray):=by rw[Array.mapM_eq_mapM_toList];rfl
 rw[e,ae M];rfl
theorem hpt {t:TypeId} {ps:Array (Nat×Operand)} {i:lN} {BN:List TypeId} (ho:o.op=.build t ps) (hc:jA P BN o=some i) (hs:aB m sl a.tmps.toList) (h:bf B m lh w)
 (U:dv B.w0 QZ sl lh pl K i):da P o a w (El B m lh K):=by
 simp[jA,ho]at hc;split at hc
 ·rename_i fs z hu hz
  split at hc
  ·rename_i pls T8
   simp[Fy]at hc;obtain⟨qs,hq,rfl⟩:=hc;simp[dv]at U
   let ⟨cs,vs,M,N,h3⟩:=j9 hs ps.toList qs _ z _ hq (cw m z.toList) U
   let ⟨v,XA,hrun⟩:=jF hz w
   refine be (s:=Instr.build t (ps.map λ(i,x)=>(i,a.eval x))) (v:=.agg vs) (by simp only[execOp,ho]) ?_ (El.same h (by simp only[Dy];exact⟨_,rfl,N⟩) h3);unfold Instr.build;rw[ae hrun,ae (aJ hu w)];dsimp only
   rw[ae (fy22 T8 w)];have e:(λx:Nat=>pls.toArray[x]?)=(λx:Nat=>pls[x]?):=by funext x;simp
   simp only[e,IT,XA,M];rfl
  ·cases hc
 ·rename_i n e z hu hz
  split at hc
  ·rename_i sz Rs
   simp[Fy]at hc;obtain⟨qs,hq,rfl⟩:=hc;simp[dv]at U
   let ⟨cs,vs,M,N,h3⟩:=j9 hs ps.toList qs _ z _ hq (cw m z.toList) U
   let ⟨v,XA,hrun⟩:=jF hz w
   refine be (s:=Instr.build t (ps.map λ(i,x)=>(i,a.eval x))) (v:=.agg vs) (by simp only[execOp,ho]) ?_ (El.same h (by simp only[Dy];exact⟨_,rfl,N⟩) h3);unfold Instr.build;rw[ae hrun,ae (aJ hu w)];dsimp only
   rw[ae (run_sizeOf Rs w)];simp only[IT,XA,M];rfl
  ·cases hc
 ·cases hc
theorem adQ {t:TypeId} {x:Operand} {i:lN} {BN:List TypeId} (ho:o.op=.load t x) (hc:jA P BN o=some i) (hs:aB m sl a.tmps.toList) (h:bf B m lh w)
 (U:dv B.w0 QZ sl lh pl K i):da P o a w (El B m lh K):=by
 simp[jA,ho]at hc;have hx:=aW hs x;split at hc
 ·rename_i n hn
  cases hc;simp[dv]at U;split at U
  ·rename_i p hp
   rw[hp]at hx
   let ⟨At,hq,SX⟩:=jS hx
   let ⟨cs,V9,hK⟩:=U
   obtain⟨ad,vs,rfl,hrun,hr⟩:=tQ (P:=P) h SX V9
   let ⟨d,hd,VO⟩:=kX hn
   rcases VO with ⟨M,k,W,N⟩|⟨_,W⟩
   ·cases W;refine be (s:=Instr.loadAt t (a.eval x)) (v:=.agg vs) (by simp only[execOp,ho]) ?_ (El.same h (by simp only[Dy];exact⟨_,rfl,hr⟩) hK);unfold Instr.loadAt;rw[hq,ae (a:=ad) (w':=w) rfl];unfold loadVar;rw[ae (kU hd w),M];simp only[H2];rw[ae (run_sizeOf N w),ae hrun];rfl
   ·cases W
  ·exact U.elim
 ·rename_i hn
  cases hc;simp[dv]at U;split at U
  ·rename_i p hp
   rw[hp]at hx
   let ⟨At,hq,SX⟩:=jS hx
   let ⟨r,V9,hK⟩:=U
   obtain⟨ad,v,rfl,hrun,hr⟩:=CX h SX V9
   let ⟨d,hd,VO⟩:=kX hn
   rcases VO with ⟨_,k,W,_⟩|⟨M,_⟩
   ·cases W
   ·refine be (s:=Instr.loadAt t (a.eval x)) (v:=v) (by simp[execOp,ho]) ?_ (El.same h hr hK);unfold Instr.loadAt;rw[hq,ae (a:=ad) (w':=w) rfl];unfold loadVar;rw[ae (kU hd w),M];exact xR hrun
  ·exact U.elim
 ·cases hc
theorem afS {t:TypeId} {x y:Operand} {n:Nat} (ho:o.op=.store t x y) (hn:ep P t=some n) (hs:aB m sl a.tmps.toList) (h:bf B m lh w)
 (U:dv B.w0 QZ sl lh pl K (.st n (bh x) (bh y))):da P o a w (El B m lh K):=by
 have hx:=aW hs x;simp[dv]at U;split at U
 ·rename_i k off hp
  rw[hp]at hx
  let ⟨At,hq,SX⟩:=jS hx
  obtain⟨b,hb,rfl⟩:=SX
  let ⟨cs,ty,W,hf,hl,Rb,hK⟩:=U
  let ⟨UH,Vw⟩:=nF (aW hs y) hf
  let ⟨w',hrun,hrel⟩:=bf.stores (P:=P) (off:=off) hb (arg sl (bh y)).cells _ cs lh w 0 h W E UH Vw
  refine hor (s:=Instr.storeAt t (a.eval x) (a.eval y)) (w':=w') (by simp[execOp,ho]) ?_ (El.store (r:=.tup []) W hrel (by simp[Dy,aB,undef]) hK);unfold Instr.storeAt;rw[hq,ae (a:=(⟨b,off,none⟩:Addr)) (w':=w) rfl];unfold storeVar;rw[ae (run_sizeOf hn w)];have Yc:=cU UH;simp[Jo]at Yc;rw[DX E];exact hrun
 ·exact U.elim
theorem ae8 {x:Operand} (ho:o.op=.nilCheck x) (hs:aB m sl a.tmps.toList) (h:bf B m lh w) (U:dv B.w0 QZ sl lh pl K (.nz (bh x))):da P o a w (El B m lh K):=by
 have hx:=aW hs x;simp[dv]at U;split at U
 ·rename_i p hp
  rw[hp]at hx
  let ⟨At,hq,SX⟩:=jS hx
  obtain⟨ad,rfl,VB⟩:=hlW SX;exact .inl ⟨_,w,by simp only[execOp,ho,hq];rfl,El.same h (by simp only[Dy];exact⟨_,rfl,VB⟩) U⟩
 ·rename_i f xs ys hp
  rw[hp]at hx;have TI:=hx;simp[Dy]at TI
  let ⟨us,vs,hq,_⟩:=TI
  exact .inl ⟨_,w,by simp[execOp,ho,hq];rfl,El.same h (by rw[hq]at hx;exact hx) U⟩
 ·exact U.elim
theorem hok {op:BinOp} {t:TypeId} {x y:Operand} {k:IntKind} {n:Int} {v:Value} (w:World):(eqGuard op t x y (.int k n) v).run P w=.ok () w:=by cases op<;>rfl
theorem ic13 {op:BinOp} {t:TypeId} {x y:Operand} {s:ByteArray} {v:Value} (w:World):(eqGuard op t x y (.string s) v).run P w=.ok () w:=by cases op<;>rfl
theorem hno {op:BinOp} {t:TypeId} {x y:Operand} {b:Bool} {v:Value} (w:World):(eqGuard op t x y (.bool b) v).run P w=.ok () w:=by cases op<;>rfl
theorem vI {k:IntKind} {n:Int}:Dy m (.int k n) (.int k n):=by simp[Dy]
theorem vB {b:Bool}:Dy m (.bool b) (.bool b):=by simp[Dy]
theorem hi3 {s:ByteArray}:Dy m (.str s) (.string s):=by simp[Dy]
theorem hpc {op:BinOp} {k:IntKind} {x y:Int} {t:TypeId} {K':af->Prop} (w:World) (h:tD op k x y K'):∃ r v,Dy m r v/\K' r/\(binOp op t (.int k x) (.int k y)).run P w=.ok v w:=by
 cases op<;>simp[tD]at h<;>try exact h.elim
 case add=>exact⟨_,_,vI,h,by simp[binOp,Op.intArith]⟩
 case sub=>exact⟨_,_,vI,h,by simp[binOp,Op.intArith]⟩
 case mul=>exact⟨_,_,vI,h,by simp[binOp,Op.intArith]⟩
 case quo=>exact⟨_,_,vI,h.2,by simp[binOp,Op.intDiv,h.1]⟩
 case rem=>exact⟨_,_,vI,h.2,by simp[binOp,Op.intDiv,h.1]⟩
 case eql=>exact⟨_,_,vB,h,by simp[binOp,Op.intCmp]⟩
 case neq=>exact⟨_,_,vB,h,by simp[binOp,Op.intCmp]⟩
 case lss=>exact⟨_,_,vB,h,by simp[binOp,Op.intCmp]⟩
 case leq=>exact⟨_,_,vB,h,by simp[binOp,Op.intCmp]⟩
 case gtr=>exact⟨_,_,vB,h,by simp[binOp,Op.intCmp]⟩
 case geq=>exact⟨_,_,vB,h,by simp[binOp,Op.intCmp]⟩
 case and=>exact⟨_,_,vI,h,by simp only[binOp,ne_eq,LU,Gq,intBits_and];rfl⟩
 case or=>exact⟨_,_,vI,h,by simp only[binOp,ne_eq,LU,Gq,intBits_or];rfl⟩
 case xor=>exact⟨_,_,vI,h,by simp only[binOp,ne_eq,LU,Gq,intBits_xor];rfl⟩
 case shl=>exact⟨_,_,vI,h.2,by simp only[binOp,Op.shift];rw[DX (Int.not_lt.2 h.1)];rfl⟩
 case shr=>exact⟨_,_,vI,h.2,by simp only[binOp,Op.shift];rw[DX (Int.not_lt.2 h.1)];rfl⟩
theorem ic10 {op:BinOp} {x y:ByteArray} {t:TypeId} {K':af->Prop} (w:World) (h:Cm op x y K'):∃ r v,Dy m r v/\K' r/\(binOp op t (.string x) (.string y)).run P w=.ok v w:=by
 cases op<;>simp only[Cm]at h<;>try exact h.elim
 case eql=>exact⟨_,_,vB,h,by simp only[binOp,Op.stringOp];rfl⟩
 case neq=>exact⟨_,_,vB,h,by simp only[binOp,Op.stringOp];rfl⟩
 case add=>exact⟨_,_,hi3,h.2,by simp only[binOp,Op.stringOp];rw[DX (Int.not_lt.2 h.1)];rfl⟩
theorem ahd {op:BinOp} {t u:TypeId} {x y:Operand} (ho:o.op=.binOp op t x y u) (hs:aB m sl a.tmps.toList) (h:bf B m lh w) (U:dv B.w0 QZ sl lh pl K (.bin op (bh x) (bh y))):da P o a w (El B m lh K):=by
 have hx:=aW hs x;have hy:=aW hs y;simp[dv,Qs]at U;split at U
 ·rename_i k p k' At hp hq
  rw[hp]at hx;rw[hq]at hy;have hx:=gf hx;have hy:=gf hy
  let ⟨rfl,U⟩:=U
  let ⟨r,v,N,h3,M⟩:=hpc (P:=P) (t:=t) (m:=m) w U
  refine be (s:=do eqGuard op t x y (a.eval x) (a.eval y);binOp op t (a.eval x) (a.eval y)) (v:=v) (by simp[execOp,ho]) ?_ (El.same h N h3);rw[hx,hy,ae (hok w)];exact M
 ·rename_i p At hp hq
  rw[hp]at hx;rw[hq]at hy;have hx:=o9 hx;have hy:=o9 hy
  let ⟨r,v,N,h3,M⟩:=ic10 (P:=P) (t:=t) (m:=m) w U
  refine be (s:=do eqGuard op t x y (a.eval x) (a.eval y);binOp op t (a.eval x) (a.eval y)) (v:=v) (by simp[execOp,ho]) ?_ (El.same h N h3);rw[hx,hy,ae (ic13 w)];exact M
 ·exact U.elim
end
end Go.Sx
namespace Go.Sx
section
variable {P:Program} {B:dB} {QZ:FuncId->b6} {m:aH} {sl:List af} {lh:List ar} {w:World} {a:Act} {o:Oper} {pl:Option Nat} {K:af->List ar->Prop}
theorem fza4 (n:Nat) (z:Array Value):((Array.range n).map (z[· % z.size]!)).toList=(List.range n).map (z[· % z.size]!):=by simp
theorem iu8 {t:TypeId} {len:Nat} {ps:Array (Nat×Operand)} {i:lN} {BN:List TypeId} (ho:o.op=.buildSlice t len ps) (hc:jA P BN o=some i) (hs:aB m sl a.tmps.toList) (h:bf B m lh w)
 (U:dv B.w0 QZ sl lh pl K i):da P o a w (El B m lh K):=by
 simp only[jA,ho]at hc;split at hc
 ·rename_i e hu
  split at hc
  ·rename_i n z hn hz
   let ⟨v,XA,hrun⟩:=jF hz w
   split at hc
   ·rename_i hcond
    simp only[Eg,GV,II,bne_iff_ne,HX]at hcond;simp only[Fy]at hc;obtain⟨qs,hq,rfl⟩:=hc;simp only[dv]at U
    let ⟨cs,vs,M,N,h3⟩:=j9 hs ps.toList qs _ ((Array.range (len*n)).map (z[· % z.size]!)) _ hq (by rw[fza4];exact cw m _) U
    let ⟨p,m',lh',g1,g2,g3,g4⟩:=iJ h N h3
    refine be (s:=Instr.buildSlice t len (ps.map λ(i,x)=>(i,a.eval x))) (v:=.slice (some ⟨w.heap.size,0,none⟩) len len) (by simp only[execOp,ho]) ?_
     ⟨_,m',lh',by simp only[Dy];exact⟨_,rfl,_,g1,rfl⟩,g2,g3,g4⟩
    unfold Instr.buildSlice;rw[ae (aJ hu w)];dsimp only
    rw[ae (run_sizeOf hn w),DX E];by_cases VT:len*n=0
    ·rw[E5 VT]
     have e₂:z.size=0:=hcond.2.resolve_left (λc=>c VT);have ny19:z=#[]:=Array.eq_empty_of_size_eq_zero e₂;subst ny19;simp only[pure_bind,IT];simp only[VT]at M ⊢;rw[M];dsimp only
     rw[ae (lf w)];rfl
    ·rw[DX VT];rw[ae hrun,pure_bind,XA];simp only[IT,M];rw[ae (lf w)];rfl
   ·split at hc
    ·rename_i VT
     simp only[Fy]at hc;obtain⟨qs,hq,rfl⟩:=hc;simp only[dv]at U
     let ⟨cs,vs,M,N,h3⟩:=j9 hs ps.toList qs [] #[] _ hq (by simp[aB]) U
     let ⟨p,m',lh',g1,g2,g3,g4⟩:=iJ h N h3
     refine be (s:=Instr.buildSlice t len (ps.map λ(i,x)=>(i,a.eval x))) (v:=.slice (some ⟨w.heap.size,0,none⟩) len len) (by simp only[execOp,ho]) ?_
      ⟨_,m',lh',by simp only[Dy];exact⟨_,rfl,_,g1,rfl⟩,g2,g3,g4⟩
     unfold Instr.buildSlice;rw[ae (aJ hu w)];dsimp only
     rw[ae (run_sizeOf hn w),DX E,E5 VT];simp only[pure_bind,IT];have e:(Array.range (len*n)).map (λx=>(#[]:Array Value)[x % (#[]:Array Value).size]!)=#[]:=by rw[VT];simp[Array.range]
     rw[e,M];dsimp only
     rw[ae (lf w)];rfl
    ·cases hc
  ·cases hc
 ·cases hc
theorem aiO {t u:TypeId} {x y:Operand} {op:BinOp} {neg:Bool} (UK:op=if neg then .neq else .eql) (ho:o.op=.binOp op t x y u) (hu:P.underlying t=some .bool) (hs:aB m sl a.tmps.toList) (h:bf B m lh w)
 (U:dv B.w0 QZ sl lh pl K (.eqb neg (bh x) (bh y))):da P o a w (El B m lh K):=by
 have hx:=aW hs x;have hy:=aW hs y;simp[dv]at U;split at U
 ·rename_i p At hp hq
  rw[hp]at hx;rw[hq]at hy;have hx:=jx hx;have hy:=jx hy;refine be (s:=do eqGuard op t x y (a.eval x) (a.eval y);binOp op t (a.eval x) (a.eval y)) (by simp[execOp,ho]) ?_ (El.same h vB U);rw[hx,hy,ae (hno w)];have he:(Op.equal t (.bool p) (.bool At)).run P w=.ok (p==At) w:=by unfold Op.equal Op.maxDepth Op.equalIn;rw[ae (aJ hu w)];rfl
  subst UK;cases neg
  ·simp only[HH,Gq,binOp];rw[ae he];rfl
  ·simp only[H2,binOp];rw[ae he];rfl
 ·exact U.elim
theorem hle0 {op:BinOp} {t:TypeId} {x y:Operand} {At:Option Addr} {n c:Nat} {v:Value} (w:World):(eqGuard op t x y (.slice At n c) v).run P w=.ok () w:=by unfold eqGuard;cases op<;>rfl
theorem aiy {t u e:TypeId} {x y:Operand} {op:BinOp} {neg:Bool} (UK:op=if neg then .neq else .eql) (ho:o.op=.binOp op t x y u) (hu:P.underlying t=some (.slice e)) (hy:vK y=true) (hs:aB m sl a.tmps.toList) (h:bf B m lh w)
 (U:dv B.w0 QZ sl lh pl K (.isn neg (bh x))):da P o a w (El B m lh K):=by
 have hx:=aW hs x;have ny15:a.eval y=.slice none 0 0:=by
  unfold vK at hy;split at hy
  ·rfl
  ·cases hy
 simp only[dv]at U;split at U
 ·rename_i p n c hp
  rw[hp]at hx
  let ⟨At,hq,SX⟩:=gH hx
  have hpq':p.isNone=At.isNone:=by
   cases p with
   |none=>simp only[d6]at SX;subst SX;rfl
   |some p=>
     cases p with
     |g a=>simp only[d6]at SX;subst SX;rfl|l k off=>obtain⟨b,_,rfl⟩:=SX;rfl
  rw[hpq']at U;refine be (s:=do eqGuard op t x y (a.eval x) (a.eval y);binOp op t (a.eval x) (a.eval y)) (by simp only[execOp,ho]) ?_ (El.same h vB U);rw[hq,ny15,ae (hle0 w)];have he:(Op.equal t (.slice At n c) (.slice none 0 0)).run P w=.ok At.isNone w:=by unfold Op.equal Op.maxDepth Op.equalIn;rw[ae (aJ hu w)];cases At<;>rfl
  subst UK;cases neg
  ·simp only[HH,Gq,binOp];rw[ae he];rfl
  ·simp only[H2,binOp];rw[ae he];rfl
 ·exact U.elim
theorem wj {t u:TypeId} {x y:Operand} {op:BinOp} {neg:Bool} {n:Nat} (hn:ep P t=some n) (UK:op=if neg then .neq else .eql) (ho:o.op=.binOp op t x y u) (he:dw P t) (hs:aB m sl a.tmps.toList) (h:bf B m lh w)
 (U:dv B.w0 QZ sl lh pl K (.eqa neg n (bh x) (bh y))):da P o a w (El B m lh K):=by
 have hx:=aW hs x;have hy:=aW hs y;simp only[dv]at U;split at U
 ·rename_i xs ys hp hq
  rw[hp]at hx;rw[hq]at hy
  let ⟨us,nw11,Td⟩:=rU hx
  let ⟨vs,ny10,RZ⟩:=rU hy
  let ⟨hlen,b,hb,hK⟩:=U
  refine be (s:=do eqGuard op t x y (a.eval x) (a.eval y);binOp op t (a.eval x) (a.eval y)) (by simp[execOp,ho]) ?_ (El.same h vB hK);have hg:(eqGuard op t x y (.agg us) (.agg vs)).run P w=.ok () w:=by
   subst UK;unfold eqGuard;cases neg
   ·simp only[HH,Gq,IA];rw[ae (a:=P) (w':=w) rfl,ae (a:=P) (w':=w) rfl,he.1];rfl
   ·simp only[H2,IA,HH,Gq];rw[ae (a:=P) (w':=w) rfl,ae (a:=P) (w':=w) rfl,he.1];rfl
  rw[nw11,ny10,ae hg];have he2:=he.2 n hn xs ys us vs m b w hlen Td RZ hb;subst UK;cases neg
  ·simp only[HH,Gq,binOp];rw[ae he2];rfl
  ·simp only[H2,binOp];rw[ae he2];rfl
 ·exact U.elim
theorem ahL {op:UnOp} {t:TypeId} {x:Operand} (ho:o.op=.unOp op t x) (hs:aB m sl a.tmps.toList) (h:bf B m lh w) (U:dv B.w0 QZ sl lh pl K (.un op (bh x))):da P o a w (El B m lh K):=by
 have hx:=aW hs x;simp only[dv]at U;split at U
 ·rename_i k n hp;rw[hp]at hx;exact be (s:=Op.unary .neg (a.eval x)) (by simp only[execOp,ho]) (by rw[gf hx];rfl) (El.same h vI U)
 ·rename_i b hp;rw[hp]at hx;exact be (s:=Op.unary .not (a.eval x)) (by simp[execOp,ho]) (by rw[jx hx];rfl) (El.same h vB U)
 ·exact U.elim
theorem i17 {s d:TypeId} {ds:TypeDesc} {k:IntKind} {x:Operand} (ho:o.op=.convert s d x) (UL:P.underlying s=some ds) (hd:P.underlying d=some (.int k)) (hs:aB m sl a.tmps.toList) (h:bf B m lh w)
 (U:dv B.w0 QZ sl lh pl K (.conv k (bh x))):da P o a w (El B m lh K):=by
 have hx:=aW hs x
 simp[dv]at U
 split at U
 ·rename_i k' n hp
  rw[hp]at hx
  refine be (s:=convert s d (a.eval x)) (by simp[execOp,ho]) ?_ (El.same h vI U)
  rw[gf hx]
  unfold convert
  rw[ae (aJ UL w),ae (aJ hd w)];rfl
 ·exact U.elim
theorem srf {f:Fn} {xs ys:Array Operand} (ho:o.op=.makeFunc f xs ys) (hs:aB m sl a.tmps.toList) (h:bf B m lh w) (U:dv B.w0 QZ sl lh pl K (.mkf f (xs.toList.map bh) (ys.toList.map bh))) :
 da P o a w (El B m lh K):=by
 refine be (s:=Instr.makeFunc f (xs.map a.eval) (ys.map a.eval)) (by simp[execOp,ho]) rfl (El.same h ?_ U);simp only[Dy];exact⟨_,_,rfl,by rw[IT];exact iD hs _,by rw[IT];exact iD hs _⟩
theorem adG {t:TypeId} {x:Operand} {i:Nat} {fs:Array Field} {f:Field} {n:Nat} (ho:o.op=.fieldAddr t x i) (hu:P.underlying t=some (.struct fs)) (hf:fs[i]? = some f) (hn:ep P f.type=some n) (VA:n≠0)
 (hs:aB m sl a.tmps.toList) (h:bf B m lh w) (U:dv B.w0 QZ sl lh pl K (.fa f.offset (bh x))):da P o a w (El B m lh K):=by
 have hx:=aW hs x;simp[dv]at U;split at U
 ·rename_i p hp
  rw[hp]at hx
  let ⟨At,hq,SX⟩:=jS hx
  obtain⟨ad,rfl,VB⟩:=sw SX f.offset;refine be (s:=Instr.fieldAt t (a.eval x) i) (v:=.pointer (some (ad.add f.offset))) (by simp only[execOp,ho]) ?_ (El.same h (by simp only[Dy];exact⟨_,rfl,VB⟩) U);unfold Instr.fieldAt;rw[ae (aJ hu w)];dsimp only
  rw[hf];dsimp only
  rw[hq,ae (a:=ad) (w':=w) rfl];unfold fieldPlace;rw[ae (a:=ad.add f.offset) (w':=w) (by rw[ae (run_sizeOf hn w),DX VA];rfl)];rfl
 ·exact U.elim
theorem hfc {t:TypeId} {n:Nat} (h:qF P t=some (some n)) (cs:Array Value) (off:Nat) (w:World):(part t cs off).run P w=.ok (.agg (cs.extract off (off+n))) w:=by
 let ⟨d,hd,VO⟩:=kX h
 rcases VO with ⟨M,k,W,N⟩|⟨_,W⟩
 ·cases W;unfold part;rw[ae (kU hd w),M];simp only[H2];rw[ae (run_sizeOf N w)];rfl
 ·cases W
theorem hfa {t:TypeId} (h:qF P t=some none) (cs:Array Value) (off:Nat) {v:Value} (U:cs[off]? = some v) (w:World):(part t cs off).run P w=.ok v w:=by
 let ⟨d,hd,VO⟩:=kX h
 rcases VO with ⟨_,k,W,_⟩|⟨M,_⟩
 ·cases W
 ·unfold part;rw[ae (kU hd w),M];simp only[HH,Gq,U];rfl
theorem hf' {cs:List af} {vs:Array Value} (h:aB m cs vs.toList) (off n:Nat):aB m ((cs.drop off).take n) (vs.extract off (off+n)).toList:=by have:=fT n (gG off h);rw[Array.toList_extract];simpa[List.extract_eq_take_drop] using this
theorem ptL {t:TypeId} {x:Operand} {i:Nat} {fs:Array Field} {f:Field} {n:Option Nat} (ho:o.op=.field t x i) (hu:P.underlying t=some (.struct fs)) (hf:fs[i]? = some f) (hn:qF P f.type=some n)
 (hs:aB m sl a.tmps.toList) (h:bf B m lh w) (U:dv B.w0 QZ sl lh pl K (.fld f.offset n (bh x))):da P o a w (El B m lh K):=by
 have hx:=aW hs x;simp[dv]at U;split at U
 ·rename_i cs hp
  rw[hp]at hx
  let ⟨vs,hq,RZ⟩:=rU hx
  have hrun:∀ {v:Value},(part f.type vs f.offset).run P w=.ok v w->(Instr.field t (a.eval x) i).run P w=.ok v w:=λhr=>by
   unfold Instr.field;rw[ae (aJ hu w)];dsimp only
   rw[hf];dsimp only
   rw[hq,ae (a:=vs) (w':=w) rfl];exact hr
  cases n with
  |some n=>exact be (s:=Instr.field t (a.eval x) i) (by simp only[execOp,ho]) (hrun (hfc hn vs f.offset w)) (El.same h (by simp only[Dy];exact⟨_,rfl,hf' RZ _ _⟩) U)
  |none=>
    let ⟨r,hr,hK⟩:=U
    let ⟨v,U,W4⟩:=jC _ RZ hr
    exact be (s:=Instr.field t (a.eval x) i) (by simp[execOp,ho]) (hrun (hfa hn vs f.offset (by simpa using U) w)) (El.same h W4 hK)
 ·exact U.elim
theorem nd6 {t:TypeId} {x ix:Operand} {n esz:Nat} {e:TypeId} (ho:o.op=.indexAddr t x ix) (hu:P.underlying t=some (.array n e)) (he:ep P e=some esz) (hs:aB m sl a.tmps.toList) (h:bf B m lh w)
 (U:dv B.w0 QZ sl lh pl K (.iaA n esz (bh x) (bh ix))):da P o a w (El B m lh K):=by
 have hx:=aW hs x;have hy:=aW hs ix;simp[dv]at U;split at U
 ·rename_i p k i hp hi
  rw[hp]at hx;rw[hi]at hy
  let ⟨At,hq,SX⟩:=jS hx
  let ⟨M,N,hK⟩:=U
  obtain⟨ad,rfl,VB⟩:=sw SX (i.toNat*esz);refine be (s:=Instr.indexAt t (a.eval x) (a.eval ix)) (by simp only[execOp,ho]) ?_ (El.same h (v:=.pointer (some (ad.add (i.toNat*esz)))) (by simp only[Dy];exact⟨_,rfl,VB⟩) hK);unfold Instr.indexAt;rw[gf hy,ae (a:=(k,i)) (w':=w) rfl,ae (aJ hu w),hq];dsimp only
  rw[ae (a:=ad) (w':=w) rfl,pure_bind];dsimp only
  rw[ae (aJ hu w)];dsimp only
  rw[E5 ⟨M,N⟩,ae (run_sizeOf he w)];rfl
 ·exact U.elim
theorem m66 {t:TypeId} {x ix:Operand} {esz:Nat} {e:TypeId} (ho:o.op=.indexAddr t x ix) (hu:P.underlying t=some (.slice e)) (he:ep P e=some esz) (hs:aB m sl a.tmps.toList) (h:bf B m lh w)
 (U:dv B.w0 QZ sl lh pl K (.iaS esz (bh x) (bh ix))):da P o a w (El B m lh K):=by
 have hx:=aW hs x;have hy:=aW hs ix;simp[dv]at U;split at U
 ·rename_i p n c k i hp hi
  rw[hp]at hx;rw[hi]at hy
  let ⟨At,hq,SX⟩:=gH hx
  obtain⟨M,N,p',rfl,hK⟩:=U;obtain⟨ad,rfl,VB⟩:=sw SX (i.toNat*esz);refine be (s:=Instr.indexAt t (a.eval x) (a.eval ix)) (by simp only[execOp,ho]) ?_ (El.same h (v:=.pointer (some (ad.add (i.toNat*esz)))) (by simp only[Dy];exact⟨_,rfl,VB⟩) hK);unfold Instr.indexAt;rw[gf hy,ae (a:=(k,i)) (w':=w) rfl,ae (aJ hu w),hq];dsimp only
  rw[pure_bind];dsimp only
  rw[ae (aJ hu w)];dsimp only
  rw[E5 ⟨M,N⟩,ae (run_sizeOf he w)];rfl
 ·exact U.elim
theorem ns2 {t:TypeId} {x ix:Operand} {n esz:Nat} {e:TypeId} {sz:Option Nat} (ho:o.op=.index t x ix) (hu:P.underlying t=some (.array n e)) (he:ep P e=some esz) (ha:qF P e=some sz)
 (hs:aB m sl a.tmps.toList) (h:bf B m lh w) (U:dv B.w0 QZ sl lh pl K (.ixA n esz sz (bh x) (bh ix))):da P o a w (El B m lh K):=by
 have hx:=aW hs x;have hy:=aW hs ix;simp[dv]at U;split at U
 ·rename_i cs k i hp hi
  rw[hp]at hx;rw[hi]at hy
  let ⟨vs,hq,RZ⟩:=rU hx
  let ⟨M,N,hK⟩:=U
  have hrun:∀ {v:Value},(part e vs (i.toNat*esz)).run P w=.ok v w->(Instr.index t (a.eval x) (a.eval ix)).run P w=.ok v w:=λhr=>by
   unfold Instr.index;rw[gf hy,ae (a:=(k,i)) (w':=w) rfl,ae (aJ hu w),hq];dsimp only
   rw[E5 ⟨M,N⟩,ae (run_sizeOf he w)];exact hr
  cases sz with
  |some sz=>exact be (s:=Instr.index t (a.eval x) (a.eval ix)) (by simp only[execOp,ho]) (hrun (hfc ha vs _ w)) (El.same h (by simp only[Dy];exact⟨_,rfl,hf' RZ _ _⟩) hK)
  |none=>
    let ⟨r,hr,hK⟩:=hK
    let ⟨v,U,W4⟩:=jC _ RZ hr
    exact be (s:=Instr.index t (a.eval x) (a.eval ix)) (by simp[execOp,ho]) (hrun (hfa ha vs _ (by simpa using U) w)) (El.same h W4 hK)
 ·exact U.elim
theorem x16 {t:TypeId} {x ix:Operand} (ho:o.op=.index t x ix) (hu:P.underlying t=some .string) (hs:aB m sl a.tmps.toList) (h:bf B m lh w)
 (U:dv B.w0 QZ sl lh pl K (.ixS (bh x) (bh ix))):da P o a w (El B m lh K):=by
 have hx:=aW hs x;have hy:=aW hs ix;simp only[dv]at U;split at U
 ·rename_i s k i hp hi
  rw[hp]at hx;rw[hi]at hy
  let ⟨M,N,hK⟩:=U
  refine be (s:=Instr.index t (a.eval x) (a.eval ix)) (by simp only[execOp,ho]) ?_ (El.same h vI hK);unfold Instr.index;rw[gf hy,ae (a:=(k,i)) (w':=w) rfl,ae (aJ hu w),o9 hx];dsimp only
  have Qw:i.toNat<s.size:=by omega
  rw[E5 M];have e:s[i.toNat]? = some (s.data.toList.getD i.toNat 0):=by have hlt':i.toNat<s.data.size:=Qw;rw[show s[i.toNat]? = some s[i.toNat] from by simp[Qw]];congr 1;rw[Oi,Array.getElem?_toList,MW hlt'];rfl
  rw[e];rfl
 ·exact U.elim
theorem ldV {x:Operand} {i:Nat} (ho:o.op=.extract x i) (hs:aB m sl a.tmps.toList) (h:bf B m lh w) (U:dv B.w0 QZ sl lh pl K (.ext (bh x) i)):da P o a w (El B m lh K):=by
 have hx:=aW hs x;simp[dv]at U;split at U
 ·rename_i vs hp
  rw[hp]at hx;simp[Dy]at hx
  let ⟨us,hq,Td⟩:=hx
  let ⟨r,hr,hK⟩:=U
  let ⟨v,U,W4⟩:=jC _ Td hr
  refine be (s:=Instr.extract (a.eval x) i) (by simp[execOp,ho]) ?_ (El.same h W4 hK);have VS:us[i]? = some v:=by simpa using U
  rw[hq];simp only[Instr.extract,VS];rfl
 ·exact U.elim
end
end Go.Sx
namespace Go.Sx
section
variable {P:Program} {B:dB} {QZ:FuncId->b6} {m:aH} {sl:List af} {lh:List ar} {w:World} {a:Act} {o:Oper} {pl:Option Nat} {K:af->List ar->Prop}
theorem em {b:Builtin} {c:Call} {s:Sem Value} {v:Value} {w':World} {RJ:Value->World->Prop} (ho:o.op=.call c) (hc:c.callee=.builtin b)
 (hb:∀cs,builtin b c.argTypes o.type cs (c.args.map a.eval)=(do pure (.value (← s)))) (hs:s.run P w=.ok v w') (hR:RJ v w'):da P o a w RJ:=by
 refine .inl ⟨v,w',?_,hR⟩;simp only[execOp,ho];rw[ae (a:={ target:=.builtin b c.argTypes o.type (c.args.map λ|.const _=>true|_=>false),args:=c.args.map a.eval }) (w':=w) (by simp only[resolve,hc];rfl)];simp only[invoke,hb];rw[ae hs];rfl
theorem plR {c:Call} {t e:TypeId} {x:Operand} (ho:o.op=.call c) (hc:c.callee=.builtin .len) (ht:c.argTypes.toList=[t]) (hx:c.args.toList=[x])
 (hu:P.underlying t=some (.slice e)) (hs:aB m sl a.tmps.toList) (h:bf B m lh w) (U:dv B.w0 QZ sl lh pl K (.len (bh x))):da P o a w (El B m lh K):=by
 have e1:c.argTypes=#[t]:=by rw[← IF,ht]
 have e2:c.args=#[x]:=by rw[← IF,hx]
 have UA:=aW hs x;simp[dv]at U;split at U
 ·rename_i p n c' hp
  rw[hp]at UA
  let ⟨At,hq,_⟩:=gH UA
  refine em (s:=Builtin.len_ #[t] o.type #[a.eval x]) ho hc (λcs=>by rw[e1,e2];simp[builtin]) ?_ (El.same h vI U);unfold Builtin.len_;rw[hq];show((underlying t >>= _:Sem Value)).run P w=_;rw[ae (aJ hu w)];rfl
 ·exact U.elim
theorem hux {c:Call} {t:TypeId} {x:Operand} (ho:o.op=.call c) (hc:c.callee=.builtin .len) (ht:c.argTypes.toList=[t]) (hx:c.args.toList=[x])
 (hu:P.underlying t=some .string) (hs:aB m sl a.tmps.toList) (h:bf B m lh w) (U:dv B.w0 QZ sl lh pl K (.lenT (bh x))):da P o a w (El B m lh K):=by
 have e1:c.argTypes=#[t]:=by rw[← IF,ht]
 have e2:c.args=#[x]:=by rw[← IF,hx]
 have UA:=aW hs x;simp[dv]at U;split at U
 ·rename_i s hp;rw[hp]at UA;refine em (s:=Builtin.len_ #[t] o.type #[a.eval x]) ho hc (λcs=>by rw[e1,e2];simp[builtin]) ?_ (El.same h vI U);unfold Builtin.len_;rw[o9 UA];show((underlying t >>= _:Sem Value)).run P w=_;rw[ae (aJ hu w)];rfl
 ·exact U.elim
theorem hsv {c:Call} {t e:TypeId} {x:Operand} {n:Nat} (ho:o.op=.call c) (hc:c.callee=.builtin .len) (ht:c.argTypes.toList=[t]) (hx:c.args.toList=[x])
 (hu:P.underlying t=some (.array n e)) (h:bf B m lh w) (U:dv B.w0 QZ sl lh pl K (.lenA n)):da P o a w (El B m lh K):=by
 have e1:c.argTypes=#[t]:=by rw[← IF,ht]
 have e2:c.args=#[x]:=by rw[← IF,hx]
 simp[dv]at U;refine em (s:=Builtin.len_ #[t] o.type #[a.eval x]) ho hc (λcs=>by rw[e1,e2];simp[builtin]) ?_ (El.same h vI U);unfold Builtin.len_;show((underlying t >>= _:Sem Value)).run P w=_;rw[ae (aJ hu w)];rfl
theorem i25 {k:IntKind} {x y:Int} (w:World):(Builtin.max2 (.int k x) (.int k y)).run P w=.ok (.int k (max x y)) w:=by
 have:(if y > x then y else x)=max x y:=by split<;>omega
 simp only[Builtin.max2,this];rfl
theorem hxx {k:IntKind} {x y:Int} (w:World):(Builtin.min2 (.int k x) (.int k y)).run P w=.ok (.int k (min x y)) w:=by
 have:(if y<x then y else x)=min x y:=by split<;>omega
 simp only[Builtin.min2,this];rfl
theorem asn {K':af->Prop}:∀ (b:Bool) (ys:List af) (vs:List Value) (x:af) (u:Value) (w:World),aB m ys vs->Dy m x u->mm2 b x ys K' ->
 ∃r v,Dy m r v/\K' r/\(vs.foldlM (if b then Builtin.max2 else Builtin.min2) u:Sem Value).run P w=.ok v w
 |b,[],vs,x,u,w,U,hx,hm=>by simp[aB]at U;subst U;exact⟨x,u,hx,by cases x<;>exact hm,rfl⟩
 |b,y::ys,vs,x,u,w,U,hx,hm=>by
   simp[aB]at U;obtain⟨v,vs,rfl,hy,U⟩:=U;unfold mm2 at hm;split at hm
   ·rename_i e;cases e
   ·rename_i k p k' At ys' e
    cases e
    let ⟨rfl,hm⟩:=hm
    rw[gf hx,gf hy]
    let ⟨r,z,M,N,h3⟩:=asn b ys vs (.int k (if b then max p At else min p At)) (.int k (if b then max p At else min p At)) w U vI hm
    refine⟨r,z,M,N,?_⟩;rw[List.foldlM_cons];cases b
    ·simp only[HH,Gq]at h3 ⊢;rw[ae (hxx w)];exact h3
    ·simp only[H2]at h3 ⊢;rw[ae (i25 w)];exact h3
   ·exact hm.elim
theorem asd {c:Call} {b:Bool} {x y:Operand} {xs:List Operand} (ho:o.op=.call c) (hc:c.callee=.builtin (if b then .max else .min)) (hx:c.args.toList=x::y::xs)
 (hs:aB m sl a.tmps.toList) (h:bf B m lh w) (U:dv B.w0 QZ sl lh pl K (.mm b (bh x) ((y::xs).map bh))):da P o a w (El B m lh K):=by
 simp only[dv]at U
 let ⟨r,v,M,N,h3⟩:=asn (P:=P) b _ _ _ _ w (iD hs (y::xs)) (aW hs x) U
 have e2:(c.args.map a.eval).toList=a.eval x::(y::xs).map a.eval:=by rw[IT,hx];rfl
 cases b
 ·refine em (s:=Builtin.min_ c.argTypes o.type (c.args.map a.eval)) ho hc (λcs=>rfl) ?_ (El.same h M N);unfold Builtin.min_;rw[e2];exact h3
 ·refine em (s:=Builtin.max_ c.argTypes o.type (c.args.map a.eval)) ho hc (λcs=>rfl) ?_ (El.same h M N);unfold Builtin.max_;rw[e2];exact h3
theorem Pq {x:Option af} {u:Option Value} {y d:Nat} {K':Nat->Prop} (w:World) (hx:match x,u with|none,none=>True|some x,some u=>Dy m x u|_,_=>False) (h:bnd x y d K') :
 ∃n,K' n/\(u=none->n=d)/\∀v code,u=some v->(Instr.sliceBound v y code).run P w=.ok n w:=by
 cases x with
 |none=>
   cases u with
   |none=>exact⟨d,h,λ_=>rfl,λv _ U=>by cases U⟩|some u=>exact hx.elim
 |some x=>
   cases u with
   |none=>exact hx.elim
   |some u=>
     simp[bnd]at h;split at h
     ·rename_i e;cases e
     ·rename_i k i e
      cases e
      let ⟨M,N,h3⟩:=h
      refine⟨i.toNat,h3,λe=>(by cases e),λv code U=>?_⟩;cases U;rw[gf hx];unfold Instr.sliceBound;rw[ae (a:=(k,i)) (w':=w) rfl];dsimp only
      rw[E5 ⟨M,N⟩];rfl
     ·exact h.elim
theorem BF (hs:aB m sl a.tmps.toList) (x:Option Operand):match (x.map bh).map (arg sl),x.map a.eval with|none,none=>True|some x,some u=>Dy m x u|_,_=>False:=by
 cases x with
 |none=>trivial|some x=>exact aW hs x
theorem q7 {b:Bool} {n c:Nat} {lo hi mx:Option Operand} {K':Nat->Nat->Nat->Prop} (Vz:¬ (mx.isSome=true/\hi.isSome=false)) (hs:aB m sl a.tmps.toList) (w:World)
 (h:bnd ((mx.map bh).map (arg sl)) c c λmm=>bnd ((hi.map bh).map (arg sl)) mm n λhh=>bnd ((lo.map bh).map (arg sl)) hh 0 λl=>K' l hh mm) :
 ∃l hh mm,K' l hh mm/\(Instr.sliceBounds b n c (lo.map a.eval) (hi.map a.eval) (mx.map a.eval)).run P w=.ok (l,hh,mm) w:=by
 let ⟨mm,h,m1,m2⟩:=Pq (P:=P) w (BF hs mx) h
 let ⟨hh,h,M,N⟩:=Pq (P:=P) w (BF hs hi) h
 let ⟨l,h,l1,l2⟩:=Pq (P:=P) w (BF hs lo) h
 refine⟨l,hh,mm,h,?_⟩;unfold Instr.sliceBounds;cases mx with
 |none=>
   obtain rfl:=m1 rfl;cases hi with
   |none=>
     obtain rfl:=M rfl;cases lo with
     |none=>obtain rfl:=l1 rfl;simp only[K9,pure_bind];rfl|some x=>simp only[K9,GU,pure_bind];rw[ae (l2 _ _ rfl)];rfl
   |some y=>
     cases lo with
     |none=>obtain rfl:=l1 rfl;simp only[K9,GU,pure_bind];rw[ae (N _ _ rfl)];rfl|some x=>simp only[K9,GU,pure_bind];rw[ae (N _ _ rfl),ae (l2 _ _ rfl)];rfl
 |some z=>
   cases hi with
   |none=>exact(Vz ⟨rfl,rfl⟩).elim
   |some y=>
     cases lo with
     |none=>obtain rfl:=l1 rfl;simp only[K9,GU,pure_bind];rw[ae (m2 _ _ rfl),ae (N _ _ rfl)];rfl|some x=>simp only[GU];rw[ae (m2 _ _ rfl),ae (N _ _ rfl),ae (l2 _ _ rfl)];rfl
theorem hf4 {p:Option jp} {At:Option Addr} (h:d6 m p At) (c:Prop) [Decidable c] (n:Nat):d6 m (if c then p else p.map (jp.add · n)) (if c then At else At.map (·.add n)):=by
 split
 ·exact h
 ·cases p with|none=>simp[d6]at h;subst h;rfl|some p=>obtain⟨ad,rfl,N⟩:=sw h n;exact N
theorem io0 {t e:TypeId} {x:Operand} {lo hi mx:Option Operand} {esz:Nat} (ho:o.op=.slice t x lo hi mx) (Vz:¬ (mx.isSome=true/\hi.isSome=false)) (hu:P.underlying t=some (.slice e)) (he:ep P e=some esz)
 (hs:aB m sl a.tmps.toList) (h:bf B m lh w) (U:dv B.w0 QZ sl lh pl K (.slS esz (bh x) (lo.map bh) (hi.map bh) (mx.map bh))):da P o a w (El B m lh K):=by
 have hx:=aW hs x;simp only[dv]at U;split at U
 ·rename_i p n c hp
  rw[hp]at hx
  let ⟨At,hq,SX⟩:=gH hx
  let ⟨l,hh,mm,hK,hrun⟩:=q7 (P:=P) (b:=true) Vz hs w U
  refine be (s:=Instr.sliceAt t (a.eval x) (lo.map a.eval) (hi.map a.eval) (mx.map a.eval)) (v:=.slice (if mm=l then At else At.map (·.add (l*esz))) (hh-l) (mm-l)) (by simp[execOp,ho]) ?_ (El.same h ?_ hK)
  ·unfold Instr.sliceAt
   rw[ae (aJ hu w)];dsimp only
   unfold Instr.slice;rw[ae (aJ hu w),hq];dsimp only
   rw[ae hrun];dsimp only
   rw[ae (run_sizeOf he w)];rfl
  ·simp only[Dy];exact⟨_,rfl,hf4 SX _ _⟩
 ·exact U.elim
theorem nd1 {t e:TypeId} {x:Operand} {lo hi mx:Option Operand} {n esz:Nat} (ho:o.op=.slice t x lo hi mx) (Vz:¬ (mx.isSome=true/\hi.isSome=false)) (hu:P.underlying t=some (.array n e)) (he:ep P e=some esz)
 (hs:aB m sl a.tmps.toList) (h:bf B m lh w) (U:dv B.w0 QZ sl lh pl K (.slA n esz (bh x) (lo.map bh) (hi.map bh) (mx.map bh))):da P o a w (El B m lh K):=by
 have hx:=aW hs x;simp only[dv]at U;split at U
 ·rename_i p hp
  rw[hp]at hx
  let ⟨At,hq,SX⟩:=jS hx
  let ⟨l,hh,mm,hK,hrun⟩:=q7 (P:=P) (b:=false) Vz hs w U
  obtain⟨ad,rfl,VB⟩:=hlW SX;refine be (s:=Instr.sliceAt t (a.eval x) (lo.map a.eval) (hi.map a.eval) (mx.map a.eval)) (v:=.slice (some (if mm=l then ad else ad.add (l*esz))) (hh-l) (mm-l)) (by simp[execOp,ho]) ?_ (El.same h ?_ hK)
  ·unfold Instr.sliceAt
   rw[ae (aJ hu w)];dsimp only
   rw[hq,ae (a:=ad) (w':=w) rfl,ae hrun];dsimp only
   rw[ae (run_sizeOf he w)];rfl
  ·simp only[Dy]
   refine⟨_,rfl,?_⟩;have:=hf4 VB (mm=l) (l*esz);by_cases e:mm=l
   ·simpa[e] using this
   ·simpa[e] using this
 ·exact U.elim
theorem np5 {t:TypeId} {x:Operand} {lo hi:Option Operand} (ho:o.op=.slice t x lo hi none) (hu:P.underlying t=some .string)
 (hs:aB m sl a.tmps.toList) (h:bf B m lh w) (U:dv B.w0 QZ sl lh pl K (.slT (bh x) (lo.map bh) (hi.map bh))):da P o a w (El B m lh K):=by
 have hx:=aW hs x;simp only[dv]at U;split at U
 ·rename_i s hp
  rw[hp]at hx
  let ⟨l,hh,mm,hK,hrun⟩:=q7 (P:=P) (b:=false) (n:=s.size) (c:=s.size) (mx:=none) (K':=λl h _=>K (.str (s.extract l h)) lh) av hs w U
  refine be (s:=Instr.sliceAt t (a.eval x) (lo.map a.eval) (hi.map a.eval) none) (v:=.string (s.extract l hh)) (by simp only[execOp,ho];rfl) ?_ (El.same h hi3 hK);unfold Instr.sliceAt;rw[ae (aJ hu w)];dsimp only
  unfold Instr.slice;rw[ae (aJ hu w),o9 hx];simp only[Option.isSome_none,HH,Gq];rw[K9]at hrun;rw[ae hrun];rfl
 ·exact U.elim
end
end Go.Sx
namespace Go.Sx
section
variable {P:Program} {B:dB} {QZ:FuncId->b6} {m:aH} {sl:List af} {lh:List ar} {w:World} {a:Act} {o:Oper} {pl:Option Nat} {K:af->List ar->Prop}
theorem hk0 (z:List Value):∀ n,(List.range (n*z.length)).map (λi=>z[i % z.length]!)=(List.replicate n z).flatten
 |0=>by simp
 |n+1=>by
   rw[J8,LW,← hk0 z n,GW,Js,List.range_add,List.map_append];congr 1
   ·apply List.ext_getElem
    ·simp
    ·intro i M N;simp at M;simp[Nat.mod_eq_of_lt M,M]
   ·rw[List.map_map];apply Jm;intro i _;simp
theorem hes (z:Array Value) (n:Nat):(Builtin.zeroCells z n).toList=(List.replicate n z.toList).flatten:=by
 unfold Builtin.zeroCells;rw[IT];have:(Array.range (n*z.size)).toList=List.range (n*z.size):=by simp
 rw[this,← hk0,Jo];apply Jm;intro x _;rw[Array.getElem!_eq_getD,List.getElem!_eq_getElem?_getD,Array.getElem?_toList,Og]
theorem fL {z:List af} {vs:List Value} (h:aB m z vs):∀ n,aB m (List.replicate n z).flatten (List.replicate n vs).flatten
 |0=>by simp[aB]
 |n+1=>by simp[J8,LW];exact ef h (fL h n)
theorem mP (h:bf B m lh w) {p:Option jp} {At:Option Addr} (hq:d6 m p At) {size n k c:Nat} {xs:List af} (hx:cellsOf B.w0 lh p (n*size)=some xs) :
 ∃vs,(Builtin.firstCells size n (.slice At k c)).run P w=.ok vs w/\aB m xs vs.toList:=by
 cases p with
 |none=>simp[d6]at hq;subst hq;simp[cellsOf,Et]at hx;subst hx;exact⟨#[],rfl,by simp[aB]⟩
 |some p=>obtain⟨ad,vs,rfl,hrun,hr⟩:=tQ (P:=P) h hq hx;exact⟨vs,hrun,hr⟩
theorem mD {t u e e' ty:TypeId} {n c k c2 sz:Nat} {ps qs:Option Addr} {nv:Array Value} {w':World} (hu:P.underlying t=some (.slice e)) (UX:P.underlying u=some (.slice e')) (Rs:ep P e=some sz)
 (hcap:n+k<=c) (hn:(Builtin.firstCells sz k (.slice qs k c2)).run P w=.ok nv w)
 (RX:(match ps with|some ad=>storeCells (ad.add (n*sz)) nv.toList|none=>pure ()).run P w=.ok () w') :
 (Builtin.append_ #[t,u] ty #[.slice ps n c,.slice qs k c2]).run P w=.ok (.slice ps (n+k) c) w':=by
 simp only[Builtin.append_,LA,Hc,He];rw[ae (aJ hu w)];dsimp only
 rw[ae (run_sizeOf Rs w),ae (aJ UX w),pure_bind];simp only[HH,Gq,Builtin.lenOf,pure_bind,IY,H2];rw[E5 hcap,ae hn];cases ps with
 |none=>have hst':Result.ok () w=Result.ok () w':=RX;cases hst';rfl
 |some ad=>simp only at RX ⊢;rw[ae RX];rfl
theorem fzb9 {t u e e' ty:TypeId} {n c k c2:Nat} {ps qs:Option Addr} {ov nv:Array Value} {i:TypeInfo} {z:Value} (hu:P.underlying t=some (.slice e)) (UX:P.underlying u=some (.slice e')) (hi:P.info? e=some i)
 (hz:i.zero=some z) (hcap:¬n+k<=c) (hbytes:Builtin.nextslicecap (n+k) c*i.bytes<=2 ^ 48) (hbig:((n+k:Nat):Int)<=IntKind.i64.max∨i.bytes≠0)
 (izb3:(Builtin.firstCells i.size n (.slice ps n c)).run P { w with drawn:=w.drawn+1 }=.ok ov { w with drawn:=w.drawn+1 })
 (hn:(Builtin.firstCells i.size k (.slice qs k c2)).run P { w with drawn:=w.drawn+1 }=.ok nv { w with drawn:=w.drawn+1 }) :
 ∃ nc,n+k<=nc/\(Builtin.append_ #[t,u] ty #[.slice ps n c,.slice qs k c2]).run P w =
  .ok (.slice (some ⟨w.heap.size,0,none⟩) (n+k) nc) { w with drawn:=w.drawn+1,heap:=w.heap.push (.cells (ov++nv++Builtin.zeroCells z.cells (nc-(n+k))) e (0,0)) }:=by
 have Rs:ep P e=some i.size:=by simp[ep,hi]
 refine⟨(Question.appendCap (n+k) c e).cut (w.tape w.drawn (.appendCap (n+k) c e)),by simp only[Question.cut];omega,?_⟩;generalize UI:(Question.appendCap (n+k) c e).cut (w.tape w.drawn (.appendCap (n+k) c e))=nc;have T2:(choose (.appendCap (n+k) c e)).run P w=.ok nc { w with drawn:=w.drawn+1 }:=by rw[← UI];rfl
 have hask:(askRoom (nc*i.bytes)).run P { w with drawn:=w.drawn+1 }=.ok () { w with drawn:=w.drawn+1 }:=by unfold askRoom;split<;>rfl
 have Yo:(zeroValue e).run P { w with drawn:=w.drawn+1 }=.ok z { w with drawn:=w.drawn+1 }:=by unfold zeroValue;rw[ae (eg hi _)];simp only[hz];rfl
 simp only[Builtin.append_,LA,Hc,He];rw[ae (aJ hu w)];dsimp only
 rw[ae (run_sizeOf Rs w),ae (aJ UX w),pure_bind];simp only[HH,Gq,Builtin.lenOf,pure_bind,IY,H2,false_or];rw[DX hcap,ae (eg hi w),DX (by rintro⟨M,N⟩;rcases hbig with h|h<;>omega),ae (eg hi w),DX E];rw[ae T2,ae (eg hi _),ae hask,ae izb3,ae hn,ae Yo,ae (lf _)];rfl
theorem in0 {c:Call} {t u e e':TypeId} {s x:Operand} {i:TypeInfo} {z:Value} (ho:o.op=.call c) (hc:c.callee=.builtin .append) (ht:c.argTypes.toList=[t,u]) (hx:c.args.toList=[s,x])
 (hu:P.underlying t=some (.slice e)) (UX:P.underlying u=some (.slice e')) (hi:P.info? e=some i) (hz:i.zero=some z) (hs:aB m sl a.tmps.toList) (h:bf B m lh w)
 (U:dv B.w0 QZ sl lh pl K (.app e i.size i.bytes (z.cells.toList.map bS) (bh s) (bh x))):da P o a w (El B m lh K):=by
 have e1:c.argTypes=#[t,u]:=by rw[← IF,ht]
 have e2:c.args=#[s,x]:=by rw[← IF,hx]
 have Rs:ep P e=some i.size:=by simp[ep,hi]
 have TV:=aW hs s;have UA:=aW hs x;simp[dv]at U;generalize arg sl (bh s)=az at U TV;generalize arg sl (bh x)=ax at U UA;unfold tp at U;split at U
 ·rename_i p n c' At k c''
  let ⟨ps,Xd,Xc⟩:=gH TV
  let ⟨qs,no10,hqq⟩:=gH UA
  let ⟨new,hnew,Sz,hgrow⟩:=U
  have hpre:∀ {v:Value} {w':World},(Builtin.append_ #[t,u] o.type #[.slice ps n c',.slice qs k c'']).run P w=.ok v w'->El B m lh K v w'->da P o a w (El B m lh K):=λhR hP=>
   em (s:=Builtin.append_ #[t,u] o.type #[a.eval s,a.eval x]) ho hc (λcs=>by rw[e1,e2];simp[builtin]) (by rw[Xd,no10];exact hR) hP
  by_cases hcap:n+k<=c'
  ·replace Sz:=Sz hcap
   let ⟨nv,hnrun,Xb⟩:=mP (P:=P) (k:=k) (c:=c'') h hqq hnew
   split at Sz
   ·rename_i b off
    let ⟨cs,ty,W,hone,Rb,hK⟩:=Sz
    obtain⟨b',hb,rfl⟩:=Xc;have hones:∀ y∈nv.toList,ng y=true:=by
     have:Dy m (.agg new) (.agg nv):=by simp only[Dy];exact⟨_,rfl,Xb⟩
     exact(nF this (by simpa[af.flat] using hone)).2
    let ⟨w',hrun,hrel⟩:=bf.stores (P:=P) (off:=off+n*i.size) hb new nv.toList cs lh w 0 h W E Xb hones
    refine hpre (mD (w':=w') hu UX Rs hcap hnrun ?_) (El.store W hrel ?_ hK)
    ·simp only;rw[m6];exact hrun
    ·simp only[Dy];exact⟨_,rfl,_,hb,rfl⟩
   ·simp[d6]at Xc;subst Xc;exact hpre (mD (w':=w) hu UX Rs hcap hnrun rfl) (El.same h (by simp only[Dy];exact⟨_,rfl,rfl⟩) Sz)
   ·rename_i ad;obtain⟨rfl,hK⟩:=Sz;simp[aB]at Xb;simp[d6]at Xc;subst Xc;refine hpre (mD (w':=w) hu UX Rs hcap hnrun ?_) (El.same h (by simp only[Dy];exact⟨_,rfl,rfl⟩) hK);simp only;rw[Xb];unfold storeCells;rfl
  ·let ⟨old,hold,hbytes,hbig,hK⟩:=hgrow E
   have rZ:=h.drew (w.drawn+1)
   let ⟨nv,hnrun,Xb⟩:=mP (P:=P) (k:=k) (c:=c'') rZ hqq hnew
   let ⟨ov,horun,izb1⟩:=mP (P:=P) (k:=n) (c:=c') rZ Xc hold
   let ⟨nc,UI,hrun⟩:=fzb9 (P:=P) (ty:=o.type) hu UX hi hz hcap hbytes hbig horun hnrun
   have T8:=hK nc UI;have hall:aB m (old++new++(List.replicate (nc-(n+k)) (z.cells.toList.map bS)).flatten) (ov++nv++Builtin.zeroCells z.cells (nc-(n+k))).toList:=by rw[MO,MO,hes];exact ef (ef izb1 Xb) (fL (cw m z.cells.toList) _)
   let ⟨p',m',lh',g1,g2,g3,g4⟩:=iJ rZ hall T8
   exact hpre hrun ⟨_,m',lh',by simp only[Dy];exact⟨_,rfl,_,g1,rfl⟩,g2,g3,g4⟩
 ·exact U.elim
theorem id10 {z:List Value} (h:z.all ng=true) (n:Nat):∀ u∈(List.replicate n z).flatten,ng u=true:=λu hu=>by
 let ⟨l,hl,hu⟩:=List.mem_flatten.1 hu
 rw[(List.mem_replicate.1 hl).2]at hu;exact List.all_eq_true.1 h u hu
theorem ov0 {c:Call} {t e:TypeId} {x:Operand} {i:TypeInfo} {z:Value} (ho:o.op=.call c) (hc:c.callee=.builtin .clear) (ht:c.argTypes.toList=[t]) (hx:c.args.toList=[x])
 (hu:P.underlying t=some (.slice e)) (hi:P.info? e=some i) (hz:i.zero=some z) (M:z.cells.size=i.size) (N:z.cells.toList.all ng=true) (hs:aB m sl a.tmps.toList) (h:bf B m lh w)
 (U:dv B.w0 QZ sl lh pl K (.clr i.size (z.cells.toList.map bS) (bh x))):da P o a w (El B m lh K):=by
 have e1:c.argTypes=#[t]:=by rw[← IF,ht]
 have e2:c.args=#[x]:=by rw[← IF,hx]
 have UA:=aW hs x;simp[dv]at U;split at U
 ·rename_i k off n c' hp
  rw[hp]at UA
  let ⟨At,hq,SX⟩:=gH UA
  obtain⟨b,hb,rfl⟩:=SX
  let ⟨cs,ty,W,hn,Rb,hK⟩:=U
  have hrel:=fL (m:=m) (cw m z.cells.toList) n;have hl:=cU hrel
  let ⟨w',hrun,hrel'⟩:=bf.stores (P:=P) (off:=off) hb (List.replicate n (z.cells.toList.map bS)).flatten (List.replicate n z.cells.toList).flatten cs lh w 0 h W (by rw[I6,← hl];simp;rw[M];omega) hrel (id10 N n)
  refine em (s:=Builtin.clear_ #[t] o.type #[a.eval x]) (w':=w') ho hc (λcs=>by rw[e1,e2];simp[builtin]) ?_ (El.store (r:=.tup []) (v:=.tuple #[]) W hrel' (by simp[Dy,aB]) hK);unfold Builtin.clear_;rw[hq];have Yo:(zeroValue e).run P w=.ok z w:=by unfold zeroValue;rw[ae (eg hi _)];simp only[hz];rfl
  obtain⟨n,rfl⟩:∃n',n=n'+1:=⟨n-1,E⟩;simp only[LA,Hc];rw[ae (aJ hu w)];show(do let izb10 ← zeroValue e;storeCells ⟨b,off,none⟩ (Builtin.zeroCells izb10.cells (n+1)).toList;pure (Value.tuple #[]):Sem Value).run P w=_;rw[ae Yo,hes,ae hrun];rfl
 ·rename_i p n c' izb26 hp
  rw[hp]at UA
  let ⟨At,hq,SX⟩:=gH UA
  obtain⟨rfl,hK⟩:=U;refine em (s:=Builtin.clear_ #[t] o.type #[a.eval x]) ho hc (λcs=>by rw[e1,e2];simp[builtin]) ?_ (El.same h (by simp[Dy,aB]:Dy m (.tup []) (.tuple #[])) hK);unfold Builtin.clear_;rw[hq];simp only[LA,Hc];rw[ae (aJ hu w)];cases At<;>rfl
 ·exact U.elim
theorem hz2 {c : Call} {f : FuncId} {fn : Func} (hS : ∀ f, (QZ f).Sound P f) (ho : o.op = .call c) (hc : c.callee = .value (.func f)) (hf : P.funcs[f]? = some fn) (hn : (fn.name == "runtime.NumGoroutine") = false) (hb : fn.body.isNone = false)
 (hs:aB m sl a.tmps.toList) (h:bf B m lh w) (U:dv B.w0 QZ sl lh pl K (.call f (c.args.toList.map bh))):da P o a w (El B m lh K):=by
 simp only[dv]at U
 let ⟨_,hcall⟩:=hS f B m lh w _ _ K h (iD hs c.args.toList) U
 refine .inr (.inr ⟨f,((c.args.toList.map a.eval)).toArray,?_,hcall.mono λe w' ⟨v,r,m',lh',M,N,h3,h4,h5⟩=>⟨v,M,r,m',lh',N,h3,h4,h5⟩⟩)
 simp only[execOp,ho]
 rw[ae (a:={ target:=.fn (.func f) #[],args:=#[]++c.args.map a.eval }) (w':=w) (by simp only[resolve,hc,Act.eval];rfl)]
 simp only[invoke,callFunc]
 rw[ae (a:=P) (w':=w) rfl,hf]
 simp only[hn,hb,HH,Gq]
 have:#[]++c.args.map a.eval++#[]=(c.args.toList.map a.eval).toArray:=by
  apply Array.toList_inj.1;simp
 rw[this];rfl
theorem hr' {c:Call} {x:Operand} (hS:∀ f,(QZ f).Sound P f) (ho:o.op=.call c) (hc:c.callee=.value x)
 (hs:aB m sl a.tmps.toList) (h:bf B m lh w) (U:dv B.w0 QZ sl lh pl K (.callv (bh x) (c.args.toList.map bh))):da P o a w (El B m lh K):=by
 have hx:=aW hs x;simp only[dv]at U;split at U
 ·rename_i f xs ys hp
  rw[hp]at hx;simp only[Dy]at hx
  let ⟨us,vs,hq,M,N⟩:=hx
  let ⟨⟨fn,hf,hn,hb⟩,hcall⟩:=hS f B m lh w _ _ K h (ef (ef M (iD hs c.args.toList)) N) U
  refine .inr (.inr ⟨f,_,?_,hcall.mono λe w' ⟨v,r,m',lh',M,N,h3,h4,h5⟩=>⟨v,M,r,m',lh',N,h3,h4,h5⟩⟩);simp only[execOp,ho];rw[ae (a:={ target:=.fn (.func f) vs,args:=us++c.args.map a.eval }) (w':=w) (by simp only[resolve,hc,hq];rfl)];simp only[invoke,callFunc];rw[ae (a:=P) (w':=w) rfl,hf];simp only[hn,hb,HH,Gq];have:us++c.args.map a.eval++vs=(us.toList++c.args.toList.map a.eval++vs.toList).toArray:=by apply Array.toList_inj.1;simp
  rw[this];rfl
 ·exact U.elim
theorem iw5 {t e:TypeId} {k k':IntKind} {n:Int} {i:TypeInfo} {z:Value} (ho:o.op=.makeSlice t (.const (.int k n)) (.const (.int k' n))) (hu:P.underlying t=some (.slice e)) (hi:P.info? e=some i) (hz:i.zero=some z)
 (hn:0<n) (XY:n<=1000) (hb:(i.bytes:Int)*n<=2 ^ 40) (h0:i.size≠0) (h:bf B m lh w)
 (U:dv B.w0 QZ sl lh pl K (.mks e n.toNat (((List.range (n.toNat*i.size)).map (z.cells[· % z.cells.size]!)).map bS))):da P o a w (El B m lh K):=by
 have Rs:ep P e=some i.size:=by simp[ep,hi]
 simp only[dv]at U
 let ⟨p,m',lh',g1,g2,g3,g4⟩:=iJ h (vs:=((List.range (n.toNat*i.size)).map (z.cells[· % z.cells.size]!)).toArray) (by simpa using cw m ((List.range (n.toNat*i.size)).map (z.cells[· % z.cells.size]!))) U
 refine be (s:=Instr.makeSlice t (.int k n) (.int k' n)) (v:=.slice (some ⟨w.heap.size,0,none⟩) n.toNat n.toNat) (by simp only[execOp,ho];rfl) ?_ ⟨_,m',lh',by simp only[Dy];exact⟨_,rfl,_,g1,rfl⟩,g2,g3,g4⟩;have hw:IntKind.i64.wrap n=n:=by have M:n % (2 ^ 64:Int)=n:=Int.emod_eq_of_lt E E;simp only[IntKind.wrap,IntKind.bits,IntKind.signed,M];rw[DX (by simp;omega)]
 have Yo:(zeroValue e).run P w=.ok z w:=by unfold zeroValue;rw[ae (eg hi _)];simp only[hz];rfl
 have hask:(askRoom (n.toNat*i.bytes)).run P w=.ok () w:=by unfold askRoom;split<;>rfl
 unfold Instr.makeSlice;rw[ae (aJ hu w)];dsimp only
 rw[ae (a:=n) (w':=w) rfl,ae (a:=n) (w':=w) rfl,ae (eg hi w)];simp only[hw];rw[DX (by simp;omega),ae hask,ae (run_sizeOf Rs w)];have SQ:n.toNat*i.size≠0:=Nat.mul_ne_zero E h0;rw[DX SQ,ae Yo,pure_bind,ae (lf w)];have e:Array.map (λx=>z.cells[x % z.cells.size]!) (Array.range (n.toNat*i.size))=(List.map (λx=>z.cells[x % z.cells.size]!) (List.range (n.toNat*i.size))).toArray:=by apply Array.toList_inj.1;simp
 rw[e];rfl
theorem pR {BN:List TypeId} {i:lN} (hS:∀ f,(QZ f).Sound P f) (hE:∀ t∈BN,dw P t) (hc:jA P BN o=some i) (hs:aB m sl a.tmps.toList) (h:bf B m lh w) (U:dv B.w0 QZ sl lh pl K i) :
 da P o a w (El B m lh K):=by
 have Sr:=hc;cases ho:o.op<;>simp only[jA,ho]at hc<;>try (cases hc;done)
 case move x=>cases hc;exact C67 (.inl ho) hs h U
 case assign x=>cases hc;exact C67 (.inr ho) hs h U
 case pick c x y=>cases hc;exact hs' ho hs h U
 case alloc t=>simp only[Fy]at hc;obtain⟨z,hz,rfl⟩:=hc;exact ie2 ho hz h U
 case box t x=>cases hc;exact im0 ho hs h U
 case build t ps=>exact hpt ho Sr hs h U
 case buildSlice t n ps=>exact iu8 ho Sr hs h U
 case load t x=>exact adQ ho Sr hs h U
 case store t x y=>simp[Fy]at hc;obtain⟨n,hn,rfl⟩:=hc;exact afS ho hn hs h U
 case nilCheck x=>cases hc;exact ae8 ho hs h U
 case binOp op t x y u=>
  split at hc
  ·rename_i hu;cases hc;exact aiO (neg:=false) rfl ho hu hs h U
  ·rename_i hu;cases hc;exact aiO (neg:=true) rfl ho hu hs h U
  ·split at hc
   ·rename_i hm;simp[Fy]at hc;obtain⟨n,hn,rfl⟩:=hc;exact wj (neg:=false) hn rfl ho (hE t (by simpa using hm)) hs h U
   ·cases hc
  ·split at hc
   ·rename_i hm;simp[Fy]at hc;obtain⟨n,hn,rfl⟩:=hc;exact wj (neg:=false) hn rfl ho (hE t (by simpa using hm)) hs h U
   ·cases hc
  ·split at hc
   ·rename_i hm;simp[Fy]at hc;obtain⟨n,hn,rfl⟩:=hc;exact wj (neg:=true) hn rfl ho (hE t (by simpa using hm)) hs h U
   ·cases hc
  ·split at hc
   ·rename_i hm;simp[Fy]at hc;obtain⟨n,hn,rfl⟩:=hc;exact wj (neg:=true) hn rfl ho (hE t (by simpa using hm)) hs h U
   ·cases hc
  ·cases hc;exact ahd ho hs h U
  ·cases hc;exact ahd ho hs h U
  ·rename_i hu
   split at hc
   ·rename_i hy;cases hc;exact aiy (neg:=false) rfl ho hu hy hs h U
   ·cases hc
  ·rename_i hu
   split at hc
   ·rename_i hy;cases hc;exact aiy (neg:=true) rfl ho hu hy hs h U
   ·cases hc
  ·cases hc
 case unOp op t x=>cases hc;exact ahL ho hs h U
 case convert s d x=>
  split at hc
  ·rename_i ds k M N;cases hc;exact i17 ho M N hs h U
  ·cases hc
 case makeFunc f xs ys=>cases hc;exact srf ho hs h U
 case fieldAddr t x j=>
  split at hc
  ·rename_i fs hu
   split at hc
   ·rename_i f hf
    split at hc
    ·rename_i n hn
     split at hc
     ·cases hc
     ·rename_i VA;cases hc;exact adG ho hu hf hn VA hs h U
    ·cases hc
   ·cases hc
  ·cases hc
 case field t x j=>
  split at hc
  ·rename_i fs hu
   split at hc
   ·rename_i f hf;simp[Fy]at hc;obtain⟨n,hn,rfl⟩:=hc;exact ptL ho hu hf hn hs h U
   ·cases hc
  ·cases hc
 case indexAddr t x ix=>
  split at hc
  ·rename_i n e hu;simp[Fy]at hc;obtain⟨n,hn,rfl⟩:=hc;exact nd6 ho hu hn hs h U
  ·rename_i e hu;simp[Fy]at hc;obtain⟨n,hn,rfl⟩:=hc;exact m66 ho hu hn hs h U
  ·cases hc
 case index t x ix=>
  split at hc
  ·rename_i n e hu
   split at hc
   ·rename_i s ag M N;cases hc;exact ns2 ho hu M N hs h U
   ·cases hc
  ·rename_i hu;cases hc;exact x16 ho hu hs h U
  ·cases hc
 case extract x j=>cases hc;exact ldV ho hs h U
 case makeInterface=>cases hc;simp[dv,JB,arg]at U
 case panic=>cases hc;simp[dv,JB,arg]at U
 case slice t x lo hi mx=>
  split at hc
  ·cases hc
  ·rename_i Vz
   have hmx':¬(mx.isSome=true/\hi.isSome=false):=by simpa using Vz
   split at hc
   ·rename_i e hu;simp[Fy]at hc;obtain⟨n,hn,rfl⟩:=hc;exact io0 ho hmx' hu hn hs h U
   ·rename_i n e hu;simp[Fy]at hc;obtain⟨n,hn,rfl⟩:=hc;exact nd1 ho hmx' hu hn hs h U
   ·rename_i hu
    split at hc
    ·cases hc
    ·rename_i hm
     cases mx with
     |none=>cases hc;exact np5 ho hu hs h U|some x=>simp at hm
   ·cases hc
 case makeSlice t x y=>
  unfold ahP at hc;split at hc
  ·rename_i k n k' n' e hu
   split at hc
   ·rename_i i hi
    split at hc
    ·rename_i z hz
     split at hc
     ·rename_i hcond;simp[Eg,GV,bne_iff_ne]at hcond;obtain⟨⟨⟨⟨rfl,M⟩,N⟩,h3⟩,h4⟩:=hcond;cases hc;exact iw5 ho hu hi hz M N h3 h4 h U
     ·cases hc
    ·cases hc
   ·cases hc
  ·cases hc
 case call c=>
  split at hc
  ·rename_i f hcal
   split at hc
   ·rename_i fn hf
    split at hc
    ·cases hc
    ·rename_i hcond;simp only[II,not_or,Bool.not_eq_true]at hcond;cases hc;exact hz2 hS ho hcal hf hcond.1 hcond.2 hs h U
   ·cases hc
  ·rename_i x hcal;cases hc;exact hr' hS ho hcal hs h U
  ·rename_i b hcal
   unfold hiy at hc;split at hc
   ·rename_i t x ht hx
    split at hc
    ·rename_i e hu;cases hc;exact plR ho hcal ht hx hu hs h U
    ·rename_i hu;cases hc;exact hux ho hcal ht hx hu hs h U
    ·rename_i n e hu;cases hc;exact hsv ho hcal ht hx hu h U
    ·cases hc
   ·rename_i x y xs hx;cases hc;exact asd (b:=true) ho hcal hx hs h U
   ·rename_i x y xs hx;cases hc;exact asd (b:=false) ho hcal hx hs h U
   ·rename_i t u s x ht hx
    split at hc
    ·rename_i e e' hu UX
     split at hc
     ·rename_i i hi
      split at hc
      ·rename_i z hz
       split at hc
       ·cases hc;exact in0 ho hcal ht hx hu UX hi hz hs h U
       ·cases hc
      ·cases hc
     ·cases hc
    ·cases hc
   ·rename_i t x ht hx
    split at hc
    ·rename_i e hu
     split at hc
     ·rename_i i hi
      split at hc
      ·rename_i z hz
       split at hc
       ·rename_i hcond;simp only[Eg,GV]at hcond;cases hc;exact ov0 ho hcal ht hx hu hi hz hcond.1 hcond.2 hs h U
       ·cases hc
      ·cases hc
     ·cases hc
    ·cases hc
   ·cases hc
  ·cases hc
end
end Go.Sx
namespace Go.Sx
structure jq where
 dst:Option Nat
 op:lN
 guard:Option (Nat×Bool)
inductive Ex where|normal|exit (id:Nat)|ret
def fv (sl:List af) (d:Option Nat) (v:af):List af :=
 match d with
 |some d=>sl.set d v|none=>sl
def fN (w0:World) (QZ:FuncId->b6):List jq->List af->List ar->(List af->List ar->Prop)->Prop
 |[],sl,lh,K=>K sl lh
 |o::rest,sl,lh,K=>
   match o.guard with
   |none=>dv w0 QZ sl lh none (λv lh'=>fN w0 QZ rest (fv sl o.dst v) lh' K) o.op
   |some (d,want)=>
     match sl.getD d .any with
     | .bool b=>(b=want->dv w0 QZ (sl.set d (.bool want)) lh none (λv lh'=>fN w0 QZ rest (fv (sl.set d (.bool want)) o.dst v) lh' K) o.op) /\
        (b=!want->fN w0 QZ rest (fv (sl.set d (.bool (!want))) o.dst (.tup [])) lh K)
     |.tup vs=>fN w0 QZ rest (fv (sl.set d (.tup vs)) o.dst (.tup [])) lh K|.int ..=>fN w0 QZ rest (fv sl o.dst (.tup [])) lh K|_=>False
def lG (P:Program) (BN:List TypeId) (ops:Array Oper) (o:Oper):Option jq :=
 match jA P BN o,o.guard with
 |some i,none=>some ⟨o.dst,i,none⟩
 |some i,some (j,want)=>match (ops[j]?).bind (·.dst) with|some d=>some ⟨o.dst,i,some (d,want)⟩|none=>none
 |none,_=>none
def fZ (P:Program) (BN:List TypeId) (ops:Array Oper):List Oper->Option (List jq)
 |[]=>some []
 |o::l=>match lG P BN ops o,fZ P BN ops l with|some x,some xs=>some (x::xs)|_,_=>none
structure lk (F:Fence):Prop where
 fn:∀f,F.fn f
 depth:F.depth=none
 alive:F.alive=false
theorem lk.fenced {F:Fence} (h:lk F) (P:Program) (mc:Machine):mc.fenced P F:=λg _=>
 ⟨λe=>(by rw[h.alive]at e;cases e),.inl (h.fn _),λ_ _=>h.fn _,λd hd=>by rw[h.depth]at hd;cases hd⟩
theorem lk.steps {F:Fence} (h:lk F) {P:Program} {a b:Machine}:StepsIn (Machine.fenced P F) P a b↔Steps P a b :=
 ⟨StepsIn.steps,λk=>(StepsIn.of_steps k).mono λmc _=>h.fenced P mc⟩
theorem lk.calls {F:Fence} (h:lk F) {n:Nat} {P:Program} {f:FuncId} {args:Array Value} {w:World} {RJ:Ending->World->Prop} (hc:Calls P f args w RJ):CallsIn F n P f args w RJ :=
 ⟨h.fn f,λcs _=>let ⟨e,w',fr,r,s,x⟩:=hc cs;⟨e,w',fr,r,by cases e with|returned v=>exact h.steps.2 s|panicked c=>exact h.steps.2 s|outgrown=>exact s,x⟩⟩
theorem hq':lk Fence.wide:=⟨λ_=>trivial,rfl,rfl⟩
section
variable {P:Program} {B:dB} {QZ:FuncId->b6} {BN:List TypeId} {F:Fence} {n:Nat} {ops:Array Oper}
theorem hfo2 {o:Oper} {i:lN} (hc:jA P BN o=some i) (r:Option Nat) (ρ:Operand->Value):o.semAt r ρ=execOp ρ o:=by
 unfold Oper.semAt;split
 ·rename_i l d c ho;simp only[jA,ho]at hc;cases hc
 ·rfl
def kd (B:dB) (m:aH) (sl:List af) (lh:List ar) (a:Act) (w:World):Prop:=aB m sl a.tmps.toList/\a.defers=B.ds/\bf B m lh w
theorem yaz (a:Act) (d:Option Tmp) (v:Value):(a.put d v).tmps.toList=match d with|some d=>a.tmps.toList.set d v|none=>a.tmps.toList:=by cases d<;>simp[Act.put]
theorem kd.put {m m':aH} {sl:List af} {lh lh':List ar} {a:Act} {w w':World} (h:kd B m sl lh a w) (hm:m.le m') (h':bf B m' lh' w') (d:Option Nat) {r:af} {v:Value} (hr:Dy m' r v) :
 kd B m' (fv sl d r) lh' (a.put d v) w':=by
 refine⟨?_,by cases d<;>exact h.2.1,h'⟩;rw[yaz];cases d with
 |none=>exact cW hm _ _ h.1|some d=>exact kP d (cW hm _ _ h.1) hr
theorem jN (hF:lk F) {o:Oper} {i:lN} (hc:jA P BN o=some i) {a:Act} {w:World} {RJ:Value->World->Prop} {next:Act->World->Prop} {Qe:Exit->Act->World->Prop}
 (h:da P o a w RJ) (hn:∀v w',RJ v w'->next (a.put o.dst v) w'):o.wpIn F n P a w next Qe:=by
 refine⟨λf _=>hF.fn f,?_⟩;rw[hfo2 hc];rcases h with ⟨v,w',M,N⟩|⟨w',M,N⟩|⟨f,args,M,N⟩
 ·rw[M];exact hn _ _ N
 ·rw[M];exact hn _ _ N
 ·rw[M];refine⟨λe=>(by rw[hF.depth]at e;cases e),hF.calls (N.mono λe w' ⟨v,he,hR⟩=>?_)⟩;subst he;exact hn _ _ hR
theorem rC {m:aH} {sl:List af} {a:Act} (hs:aB m sl a.tmps.toList) {j d:Nat} (hj:(ops[j]?).bind (·.dst)=some d) :
 (∀b,sl.getD d .any=.bool b->yielded ops a.tmps j=some b)/\(∀vs,sl.getD d .any=.tup vs->yielded ops a.tmps j=none)/\(∀k n,sl.getD d .any=.int k n->yielded ops a.tmps j=none):=by
 have key:∀ x,sl.getD d .any=x->x≠.any->∃ v,a.tmps[d]? = some v/\Dy m x v:=λx hx SQ=>by
  cases hg:sl[d]? with
  |none=>simp[List.getD,hg]at hx;exact(SQ hx.symm).elim
  |some y=>
    let ⟨v,U,hr⟩:=jC d hs hg
    simp[List.getD,hg]at hx;subst hx;exact⟨v,by simpa using U,hr⟩
 refine⟨λb hb=>?_,λvs hb=>?_,λk n hb=>?_⟩<;>let ⟨v,U,hr⟩:=key _ hb av<;>simp[yielded,hj,Option.bind_some,U]
 ·rw[jx hr]
 ·simp[Dy]at hr;obtain⟨us,rfl,_⟩:=hr;rfl
 ·rw[gf hr]
theorem gi {m:aH} {sl:List af} {lh:List ar} {a:Act} {w:World} (h:kd B m sl lh a w) {d:Nat} {x:af} (hx:sl.getD d .any=x):kd B m (sl.set d x) lh a w:=by
 refine⟨?_,h.2.1,h.2.2⟩;cases hg:sl[d]? with
 |none=>rw[List.set_eq_of_length_le (by simpa using hg)];exact h.1
 |some y=>
   simp[List.getD,hg]at hx;subst hx;have:sl.set d y=sl:=by
    apply Hg;intro j;rw[G1];split
    ·rename_i e;subst e
     let ⟨M,N⟩:=List.getElem?_eq_some_iff.1 hg
     simp[M,N]
    ·rfl
   rw[this];exact h.1
theorem pA (hF:lk F) (hS:∀ f,(QZ f).Sound P f) (hE:∀ t∈BN,dw P t) {Qe:Exit->Act->World->Prop} (rest:List Nat):∀ (l:List Oper) (xs:List jq) (k:Nat) (sl:List af) (lh:List ar) (m:aH) (a:Act) (w:World) (K:List af->List ar->Prop),
 (∀j,j<l.length->l[j]? = ops[k+j]?)->fZ P BN ops l=some xs->fN B.w0 QZ xs sl lh K->kd B m sl lh a w ->
 (∀sl' lh' m' a' w',kd B m' sl' lh' a' w'->jB lh m lh' m'->K sl' lh'->wpOpsIn F n P ops Qe rest a' w')->wpOpsIn F n P ops Qe (List.range' k l.length++rest) a w
 |[],xs,k,sl,lh,m,a,w,K,_,hc,U,hs,hQ=>by simp[fZ,Et]at hc;subst hc;exact hQ _ _ _ _ _ hs (jB.refl _ _) U
 |o::l,xs,k,sl,lh,m,a,w,K,hl,hc,U,hs,hQ=>by
   have h0:ops[k]? = some o:=by simpa using(hl 0 av).symm
   have SJ:∀j,j<l.length->l[j]? = ops[k+1+j]? := λj hj=>by have:=hl (j+1) (by simpa using hj);simpa[Ik,Js 1 j] using this
   simp[fZ]at hc;split at hc
   ·rename_i x xs' hx TS
    cases hc;simp[HC,JC,Jy,wpOpsIn,h0];have ih:=λTB lh1 m1 a1 w1 U hs (he:jB lh m lh1 m1)=>pA hF hS hE rest l xs' (k+1) TB lh1 m1 a1 w1 K SJ TS U hs (λsl' lh' m' a' w' M N h3=>hQ sl' lh' m' a' w' M (he.trans N) h3);unfold lG at hx;split at hx
    ·rename_i i hi hg;cases hx;simp[fN]at U;rw[E5 (by simp[Region.wanted,hg])];refine jN hF hi (pR hS hE hi hs.1 hs.2.2 U) λv w' ⟨r,m',lh',M,N,h3,h4⟩=>?_;exact ih _ _ m' _ _ h4 (hs.put N.1 h3 o.dst M) N
    ·rename_i i j want hi hg
     split at hx
     ·rename_i d hd
      cases hx;simp[fN]at U
      let ⟨y1,y2,y3⟩:=rC (ops:=ops) hs.1 hd
      split at U
      ·rename_i b hb
       have hy:=y1 b hb;by_cases WY:b=want
       ·subst WY;have SS:=gi hs hb;rw[E5 (by simp[Region.wanted,hg,hy])];refine jN hF hi (pR hS hE hi SS.1 SS.2.2 (U.1 rfl)) λv w' ⟨r,m',lh',M,N,h3,h4⟩=>?_;exact ih _ _ m' _ _ h4 (SS.put N.1 h3 o.dst M) N
       ·have WW:b=!want:=by cases b<;>cases want<;>simp_all
        have SS:=gi hs hb;rw[DX (by simp[Region.wanted,hg,hy,WY])];refine⟨λf _=>hF.fn f,?_⟩;rw[WW]at SS;exact ih _ _ m _ _ (U.2 WW) (SS.put (aH.le_refl m) hs.2.2 o.dst (by simp[Dy,aB,undef])) (jB.refl _ _)
      ·rename_i vs hb;rw[DX (by simp[Region.wanted,hg,y2 _ hb])];refine⟨λf _=>hF.fn f,?_⟩;exact ih _ _ m _ _ U ((gi hs hb).put (aH.le_refl m) hs.2.2 o.dst (by simp[Dy,aB,undef])) (jB.refl _ _)
      ·rename_i hb;rw[DX (by simp[Region.wanted,hg,y3 _ _ hb])];refine⟨λf _=>hF.fn f,?_⟩;exact ih _ _ m _ _ U (hs.put (aH.le_refl m) hs.2.2 o.dst (by simp[Dy,aB,undef])) (jB.refl _ _)
      ·exact U.elim
     ·cases hx
    ·cases hx
   ·cases hc
end
end Go.Sx
namespace Go.Sx
structure b6.Ok (P:Program) (f:FuncId) (QZ:b6):Prop where
 sound:QZ.Sound P f
 mono:∀w0 args lh K K',(∀r l,K r l->K' r l)->QZ w0 args lh K->QZ w0 args lh K'
 strict:∀w0 args lh (Qe:Prop),QZ w0 args lh (λ_ _=>Qe)->Qe
def NJ:lN->Bool
 |.call ..|.callv ..|.app ..=>false|_=>true
section
variable {w0:World} {QZ:FuncId->b6} {sl:List af} {lh:List ar} {pl:Option Nat}
theorem hpR {o:ar} {K K':Nat->List ar->Prop} (h:∀ p l,K p l->K' p l) (hp:place pl lh o K):place pl lh o K':=by
 cases pl with
 |none=>exact h _ _ hp|some p=>exact⟨hp.1,h _ _ hp.2⟩
theorem hrc (o:ar):∃ d:Option (Nat×List ar),∀ K:Nat->List ar->Prop,place pl lh o K↔∃ p l,d=some (p,l)/\K p l:=by
 cases pl with
 |none=>exact⟨some (lh.length,lh++[o]),λK=>⟨λh=>⟨_,_,rfl,h⟩,λ⟨p,l,e,h⟩=>by cases e;exact h⟩⟩
 |some p=>
   by_cases hd:lh[p]? = some .dead
   ·exact⟨some (p,lh.set p o),λK=>⟨λh=>⟨_,_,rfl,h.2⟩,λ⟨At,l,e,h⟩=>by cases e;exact⟨hd,h⟩⟩⟩
   ·exact⟨none,λK=>⟨λh=>(hd h.1).elim,λ⟨At,l,e,h⟩=>by cases e⟩⟩
def cr (Φ:(af->List ar->Prop)->Prop):Prop:=∃d:Option (af×List ar),∀K,Φ K↔∃v l,d=some (v,l)/\K v l
theorem cr.yes (v:af) (l:List ar):cr (λK=>K v l):=⟨some (v,l),λ_=>⟨λh=>⟨_,_,rfl,h⟩,λ⟨_,_,e,h⟩=>by cases e;exact h⟩⟩
theorem cr.no:cr (λ_=>False):=⟨none,λ_=>⟨λh=>h.elim,λ⟨_,_,e,_⟩=>by cases e⟩⟩
theorem cr.and {Φ:(af->List ar->Prop)->Prop} (p:Prop) (h:cr Φ):cr (λK=>p/\Φ K):=by
 let ⟨d,hd⟩:=h
 by_cases hp:p
 ·exact⟨d,λK=>⟨λh=>(hd K).1 h.2,λh=>⟨hp,(hd K).2 h⟩⟩⟩
 ·exact⟨none,λK=>⟨λh=>(hp h.1).elim,λ⟨_,_,e,_⟩=>by cases e⟩⟩
theorem cr.ex {α:Type} {Φ:α->(af->List ar->Prop)->Prop} (x:Option α) (h:∀ a,cr (Φ a)):cr (λK=>∃ a,x=some a/\Φ a K):=by
 cases x with
 |none=>exact⟨none,λK=>⟨λ⟨_,e,_⟩=>(by cases e),λ⟨_,_,e,_⟩=>(by cases e)⟩⟩
 |some a=>
   let ⟨d,hd⟩:=h a
   exact⟨d,λK=>⟨λ⟨_,e,hK⟩=>(by cases e;exact(hd K).1 hK),λhK=>⟨a,rfl,(hd K).2 hK⟩⟩⟩
theorem cr.congr {Φ Ψ:(af->List ar->Prop)->Prop} (h:∀ K,Φ K↔Ψ K) (hd:cr Ψ):cr Φ:=by
 let ⟨d,hd⟩:=hd
 exact⟨d,λK=>(h K).trans (hd K)⟩
theorem cr.place (o:ar) (f:Nat->af):cr (λK=>place pl lh o λp l=>K (f p) l):=by
 let ⟨d,hd⟩:=hrc (lh:=lh) (pl:=pl) o
 refine⟨d.map λ(p,l)=>(f p,l),λK=>(hd _).trans ⟨λ⟨p,l,e,h⟩=>⟨_,_,by rw[e];rfl,h⟩,λ⟨v,l,e,h⟩=>?_⟩⟩;cases d with
 |none=>cases e|some d=>cases e;exact⟨_,_,rfl,h⟩
theorem cr.bnd {Φ:Nat->(af->List ar->Prop)->Prop} (x:Option af) (y d:Nat) (h:∀ n,cr (Φ n)):cr (λK=>bnd x y d λn=>Φ n K):=by
 unfold Sx.bnd;cases x with
 |none=>exact h d|some x=>cases x<;>first|exact cr.no|exact cr.and _ (cr.and _ (h _))
theorem cr.parts (ps:List (Nat×Nat×gq)):∀ (z:List af) {Φ:List af->(af->List ar->Prop)->Prop},(∀ cs,cr (Φ cs))->cr (λK=>parts sl ps z λcs=>Φ cs K):=by
 induction ps with
 |nil=>intro z Φ h;exact h z|cons p ps ih=>intro z Φ h;let ⟨off,n,x⟩:=p;exact cr.and _ (cr.and _ (cr.and _ (ih _ h)))
theorem cr.mm2 (b:Bool) (l:List ar):∀ (ys:List af) (x:af),cr (λK=>mm2 b x ys λv=>K v l)
 |[],x=>by cases x<;>exact cr.yes _ _
 |y::ys,x=>by
   cases x with
   |int k a=>cases y with|int k' c=>exact cr.and _ (cr.mm2 b l ys _)|_=>exact cr.no
   |_=>cases y<;>exact cr.no
theorem Bg {op:lN} (h:NJ op=true):cr (λK=>dv w0 QZ sl lh pl K op):=by
 cases op<;>simp only[NJ,HH]at h<;>clear h<;>simp only[dv]
 case mov=>exact cr.yes _ _
 case pick c x y=>
  cases arg sl c<;>try exact cr.no
  rename_i t
  cases t
  ·exact cr.congr (λK=>⟨λh=>h.2 rfl,λh=>⟨λe=>(by cases e),λ_=>h⟩⟩) (cr.yes (arg sl y) lh)
  ·exact cr.congr (λK=>⟨λh=>h.1 rfl,λh=>⟨λ_=>h,λe=>(by cases e)⟩⟩) (cr.yes (arg sl x) lh)
 case new=>exact cr.place _ _
 case box=>exact cr.and _ (cr.place _ _)
 case agg=>exact cr.parts _ _ λ_=>cr.yes _ _
 case bsl=>exact cr.parts _ _ λ_=>cr.place _ _
 case ld x=>
  cases arg sl x<;>try exact cr.no
  rename_i p
  cases p
  ·exact cr.no
  ·exact cr.ex _ λ_=>cr.yes _ _
 case lds n x=>
  cases arg sl x<;>try exact cr.no
  rename_i p
  cases p
  ·exact cr.no
  ·exact cr.ex _ λ_=>cr.yes _ _
 case isn neg x=>
  cases arg sl x<;>first|exact cr.no|exact cr.yes _ _
 case clr esz z x=>
  cases arg sl x<;>try exact cr.no
  rename_i p n c
  cases p with
  |none=>exact cr.and _ (cr.yes _ _)
  |some p=>
    cases p with
    |g a=>exact cr.and _ (cr.yes _ _)
    |l k off=>
      cases hg:lh[k]? with
      |none=>exact cr.congr (λK=>⟨λ⟨_,_,e,_⟩=>(by rw[hg]at e;cases e),λh=>h.elim⟩) cr.no
      |some ob=>
        cases ob with
        |cells cs ty=>
          refine cr.congr (Ψ:=λK=>n≠0/\off+n*esz<=cs.length/\K (.tup []) (lh.set k (.cells (wr cs off (List.replicate n z).flatten) ty))) (λK=>?_) (cr.and _ (cr.and _ (cr.yes _ _)))
          constructor
          ·rintro⟨cs',ty',e,M,N,h3⟩
           rw[hg]at e;cases e;exact⟨M,N,h3⟩
          ·rintro⟨M,N,h3⟩
           exact⟨cs,ty,hg,M,N,h3⟩
        |dead=>exact cr.congr (λK=>⟨λ⟨_,_,e,_⟩=>(by rw[hg]at e;cases e),λh=>h.elim⟩) cr.no
        |hid=>exact cr.congr (λK=>⟨λ⟨_,_,e,_⟩=>(by rw[hg]at e;cases e),λh=>h.elim⟩) cr.no
 case st n x y=>
  cases arg sl x<;>try exact cr.no
  rename_i p
  cases p
  ·exact cr.no
  rename_i p
  cases p
  ·rename_i k off
   cases hg:lh[k]? with
   |none=>exact cr.congr (λK=>⟨λ⟨_,_,e,_⟩=>(by rw[hg]at e;cases e),λh=>h.elim⟩) cr.no
   |some ob=>
     cases ob with
     |cells cs ty=>
       refine cr.congr (Ψ:=λK=>(arg sl y).flat=true/\(arg sl y).cells.length=n/\off+n<=cs.length/\K (.tup []) (lh.set k (.cells (wr cs off (arg sl y).cells) ty))) (λK=>?_) (cr.and _ (cr.and _ (cr.and _ (cr.yes _ _))))
       exact⟨λ⟨_,_,e,h⟩=>(by rw[hg]at e;cases e;exact h),λh=>⟨cs,ty,hg,h⟩⟩
     |_=>exact cr.congr (λK=>⟨λ⟨_,_,e,_⟩=>(by rw[hg]at e;cases e),λh=>h.elim⟩) cr.no
  ·exact cr.no
 case nz x=>
  cases arg sl x<;>try exact cr.no
  ·rename_i p
   cases p
   ·exact cr.no
   ·exact cr.yes _ _
  ·rename_i f _ _
   cases f<;>first|exact cr.yes _ _|exact cr.no
 case bin op x y=>
  unfold Qs
  cases arg sl x<;>cases arg sl y<;>try exact cr.no
  ·refine cr.and _ ?_
   cases op<;>simp only[tD]<;>first|exact cr.yes _ _|exact cr.and _ (cr.yes _ _)|exact cr.no
  ·cases op<;>simp only[Cm]<;>first|exact cr.yes _ _|exact cr.and _ (cr.yes _ _)|exact cr.no
 case eqa neg n x y=>
  cases arg sl x<;>cases arg sl y<;>try exact cr.no
  exact cr.and _ (cr.ex _ λ_=>cr.yes _ _)
 case eqb neg x y=>
  cases arg sl x<;>cases arg sl y<;>try exact cr.no
  exact cr.yes _ _
 case un op x=>
  cases op<;>cases arg sl x<;>first|exact cr.no|exact cr.yes _ _
 case conv k x=>cases arg sl x<;>first|exact cr.no|exact cr.yes _ _
 case mkf=>exact cr.yes _ _
 case fa off x=>
  cases arg sl x<;>try exact cr.no
  rename_i p
  cases p<;>first|exact cr.no|exact cr.yes _ _
 case fld off n x=>
  cases arg sl x<;>try exact cr.no
  cases n
  ·exact cr.ex _ λ_=>cr.yes _ _
  ·exact cr.yes _ _
 case iaA n esz x ix=>
  cases arg sl x<;>try exact cr.no
  rename_i p
  cases p<;>try exact cr.no
  cases arg sl ix<;>first|exact cr.no|exact cr.and _ (cr.and _ (cr.yes _ _))
 case iaS esz x ix=>
  cases arg sl x<;>try exact cr.no
  cases arg sl ix<;>first|exact cr.no|exact cr.and _ (cr.and _ (cr.ex _ λ_=>cr.yes _ _))
 case ixA n esz sz x ix=>
  cases arg sl x<;>try exact cr.no
  cases arg sl ix<;>try exact cr.no
  refine cr.and _ (cr.and _ ?_)
  cases sz
  ·exact cr.ex _ λ_=>cr.yes _ _
  ·exact cr.yes _ _
 case ixS x ix=>
  cases arg sl x<;>try exact cr.no
  cases arg sl ix<;>first|exact cr.no|exact cr.and _ (cr.and _ (cr.yes _ _))
 case len x=>cases arg sl x<;>first|exact cr.no|exact cr.yes _ _
 case lenT x=>cases arg sl x<;>first|exact cr.no|exact cr.yes _ _
 case lenA=>exact cr.yes _ _
 case mm=>exact cr.mm2 _ _ _ _
 case ext x i=>
  cases arg sl x<;>try exact cr.no
  exact cr.ex _ λ_=>cr.yes _ _
 case slS esz x lo hi mx=>
  cases arg sl x<;>try exact cr.no
  exact cr.bnd _ _ _ λ_=>cr.bnd _ _ _ λ_=>cr.bnd _ _ _ λ_=>cr.yes _ _
 case slA n esz x lo hi mx=>
  cases arg sl x<;>try exact cr.no
  rename_i p
  cases p<;>try exact cr.no
  exact cr.bnd _ _ _ λ_=>cr.bnd _ _ _ λ_=>cr.bnd _ _ _ λ_=>cr.yes _ _
 case slT x lo hi=>
  cases arg sl x<;>try exact cr.no
  exact cr.bnd _ _ _ λ_=>cr.bnd _ _ _ λ_=>cr.yes _ _
 case mks=>exact cr.place _ _
theorem cr.mono {Φ:(af->List ar->Prop)->Prop} (h:cr Φ) {K K':af->List ar->Prop} (W:∀ v l,K v l->K' v l) (hp:Φ K):Φ K':=by
 let ⟨d,hd⟩:=h
 let ⟨v,l,e,hK⟩:=(hd K).1 hp
 exact(hd K').2 ⟨v,l,e,W _ _ hK⟩
theorem hp0 {ty:TypeId} {esz bytes:Nat} {zero:List af} {K K':af->List ar->Prop} {x y:af} (W:∀ v l,K v l->K' v l) (h:tp w0 lh pl ty esz bytes zero K x y):tp w0 lh pl ty esz bytes zero K' x y:=by
 unfold tp at *
 split at h
 ·rename_i p n c At k _
  let ⟨new,M,N,h3⟩:=h
  refine⟨new,M,λhc=>?_,λhc=>?_⟩
  ·have N:=N hc
   cases p with
   |none=>exact W _ _ N
   |some p=>cases p with
     |l b off=>let ⟨cs,t,a,b,c,d⟩:=N;exact⟨cs,t,a,b,c,W _ _ d⟩
     |g a=>exact⟨N.1,W _ _ N.2⟩
  ·let ⟨old,a,b,c,d⟩:=h3 hc
   exact⟨old,a,b,c,λc' Sr=>hpR (λ_ _=>W _ _) (d c' Sr)⟩
 ·exact h.elim
theorem hnl {o:ar} {Qe:Prop} (h:place pl lh o λ_ _=>Qe):Qe:=by
 cases pl with
 |none=>exact h|some p=>exact h.2
theorem hnr {ty:TypeId} {esz bytes:Nat} {zero:List af} {Qe:Prop} {x y:af} (h:tp w0 lh pl ty esz bytes zero (λ_ _=>Qe) x y):Qe:=by
 unfold tp at h;split at h
 ·rename_i p n c At k _
  let ⟨new,M,N,h3⟩:=h
  by_cases hc:n+k<=c
  ·have N:=N hc
   cases p with
   |none=>exact N
   |some p=>cases p with
     |l b off=>let ⟨cs,t,a,b,c,d⟩:=N;exact d
     |g a=>exact N.2
  ·let ⟨old,a,b,c,d⟩:=h3 E
   exact hnl (d _ (Em _))
 ·exact h.elim
theorem dO {P:Program} (hS:∀ f,(QZ f).Ok P f) {op:lN} {K K':af->List ar->Prop} (W:∀ v l,K v l->K' v l) (h:dv w0 QZ sl lh pl K op):dv w0 QZ sl lh pl K' op:=by
 by_cases hd:NJ op=true
 ·exact(Bg hd).mono W h
 ·cases op<;>simp[NJ,LU]at hd<;>simp[dv]at h ⊢
  case call f xs=>exact(hS f).mono _ _ _ _ _ W h
  case callv x xs=>
   split at h
   ·exact(hS _).mono _ _ _ _ _ W h
   ·exact h.elim
  case app=>exact hp0 W h
theorem ow {P:Program} (hS:∀ f,(QZ f).Ok P f) {op:lN} {Qe:Prop} (h:dv w0 QZ sl lh pl (λ_ _=>Qe) op):Qe:=by
 by_cases hd:NJ op=true
 ·let ⟨d,hd⟩:=Bg (w0:=w0) (QZ:=QZ) (sl:=sl) (lh:=lh) (pl:=pl) hd
  let ⟨_,_,_,hQ⟩:=(hd _).1 h
  exact hQ
 ·cases op<;>simp[NJ,LU]at hd<;>simp[dv]at h
  case call f xs=>exact(hS f).strict _ _ _ _ h
  case callv x xs=>
   split at h
   ·exact(hS _).strict _ _ _ _ h
   ·exact h.elim
  case app=>exact hnr h
end
end Go.Sx
namespace Go.Sx
def hide (X:List Nat) (lh:List ar):List ar:=lh.mapIdx λk o=>if k∈X then .hid else o
def mix (R2:List Nat) (lh l:List ar):List ar:=lh.mapIdx λk o=>if k∈R2 then l.getD k o else o
def kI (R2:List Nat) (l h:List ar):Prop:=l.length=h.length/\∀k,k∉R2->l[k]? = h[k]?
theorem hide_get (X:List Nat) (lh:List ar) (k:Nat):(hide X lh)[k]? = if k∈X then lh[k]?.map (λ_=>.hid) else lh[k]? := by
 unfold hide;rw[L8];split
 ·cases lh[k]? with|none=>rfl|some o=>simp
 ·cases lh[k]? with|none=>rfl|some o=>simp
theorem hide_length (X:List Nat) (lh:List ar):(hide X lh).length=lh.length:=by simp[hide]
theorem vQ (R2:List Nat) (lh l:List ar) (k:Nat):(mix R2 lh l)[k]? = if k∈R2 then lh[k]?.map (λo=>l.getD k o) else lh[k]? := by
 unfold mix;rw[L8];split
 ·cases lh[k]? with|none=>rfl|some o=>simp
 ·cases lh[k]? with|none=>rfl|some o=>simp
theorem hoz (R2:List Nat) (lh l:List ar):(mix R2 lh l).length=lh.length:=by simp[mix]
theorem bf.unhide {B:dB} {m m':aH} {lh lh':List ar} {w w':World} {X R2:List Nat} (h:bf B m lh w)
 (h':bf ⟨B.w0,w,λb=>∃k cs ty,k∉X/\lh[k]? = some (.cells cs ty)/\m k=some b,B.ds⟩ m' lh' w') (he:jB (hide X lh) m lh' m') (hw:kI R2 lh' (hide X lh)) :
 bf B m' (mix R2 lh lh') w'/\jB lh m (mix R2 lh lh') m':=by
 have hlen:lh'.length=lh.length:=by rw[hw.1,hide_length]
 have hent:∀ k o,(mix R2 lh lh')[k]? = some o->(lh'[k]? = some o) ∨ (k ∈ X/\lh[k]? = some o/\lh'[k]? = some .hid):=λk o W=>by
  rw[vQ]at W;split at W
  ·cases hl:lh[k]? with
   |none=>rw[hl]at W;cases W
   |some o'=>
     rw[hl]at W;simp at W;have Qw:k<lh'.length:=by rw[hlen];exact(List.getElem?_eq_some_iff.1 hl).1
     left;rw[HU Qw]at W ⊢;simpa using W
  ·rename_i iz16
   have SP:=hw.2 k iz16;rw[hide_get]at SP;split at SP
   ·rename_i hX;right;exact⟨hX,W,by rw[SP,W];rfl⟩
   ·left;rw[SP];exact W
 have hnoown:∀k cs ty b,k∈X->lh[k]? = some (.cells cs ty)->m k=some b->¬ ∃j cs ty,j∉X/\lh[j]? = some (ar.cells cs ty)/\m j=some b:=λk cs ty b hX W hb ⟨j,cs',ty',hj,hl,RQ⟩=>by exact hj (h.inj j k b cs' cs ty' ty hl W RQ hb▸hX)
 refine⟨⟨h'.os.trans h.os,h'.tape.trans h.tape,h'.output.trans h.output,h'.size,h'.old,HQ h.fsize h'.fsize,λb hb ho=>?_,λk cs ty W=>?_,λk k' b cs cs' ty ty' M N hb RQ=>?_,λk W=>?_,λk W=>?_,h'.rng⟩,he.1,λk W=>?_⟩
 ·rw [h'.kept b (Ho hb h.fsize) (λ⟨k,cs,ty,_,hl,hm⟩=>?_)]
  ·exact h.kept b hb ho
  ·let ⟨b',_,RQ,_,_,_,h3⟩:=h.loc k cs ty hl
   rw[hm]at RQ;cases RQ;rcases h3 with h3|h3
   ·omega
   ·exact ho h3
 ·rcases hent k _ W with hl|⟨hX,hl,_⟩
  ·let ⟨b,vs,hb,RZ,hh,M,N⟩:=h'.loc k cs ty hl
   refine⟨b,vs,hb,RZ,hh,M,?_⟩;rcases N with N|⟨j,cs',ty',hj,U7,u6⟩
   ·exact .inl (HQ h.fsize N)
   ·let ⟨b',_,RQ,_,_,_,h3⟩:=h.loc j cs' ty' U7
    rw[u6]at RQ;cases RQ;exact h3
  ·let ⟨b,vs,hb,RZ,hh,M,N⟩:=h.loc k cs ty hl
   refine⟨b,vs,he.1 _ _ hb,cW he.1 _ _ RZ,?_,M,N⟩;rw[h'.kept b (h.rng k b hb) (hnoown k cs ty b hX hl hb)];exact hh
 ·have mixed:∀ k k' b cs cs' ty ty',lh'[k]? = some (.cells cs ty)->k' ∈ X->lh[k']? = some (.cells cs' ty')->m' k=some b->m' k'=some b->False:=λk k' b cs cs' ty ty' hl hX SJ hb RQ=>by
   let ⟨b0,_,SH,_⟩:=h.loc k' cs' ty' SJ
   have e:=he.1 _ _ SH;rw[RQ]at e;cases e
   let ⟨b1,_,SU,_,_,_,N⟩:=h'.loc k cs ty hl
   rw[hb]at SU;cases SU;rcases N with N|N
   ·have h3:=h.rng k' b SH;have h4:w.heap.size<=b:=N;omega
   ·exact hnoown k' cs' ty' b hX SJ SH N
  rcases hent k _ M with hl|⟨hX,hl,_⟩<;>rcases hent k' _ N with SJ|⟨XV,SJ,_⟩
  ·exact h'.inj k k' b cs cs' ty ty' hl SJ hb RQ
  ·exact(mixed k k' b cs cs' ty ty' hl XV SJ hb RQ).elim
  ·exact(mixed k' k b cs' cs ty' ty SJ hX hl RQ hb).elim
  ·let ⟨b0,_,SH,_⟩:=h.loc k cs ty hl
   let ⟨b1,_,SU,_⟩:=h.loc k' cs' ty' SJ
   have e:=he.1 _ _ SH;rw[hb]at e;cases e;have e:=he.1 _ _ SU;rw[RQ]at e;cases e;exact h.inj k k' b cs cs' ty ty' hl SJ SH SU
 ·exact h'.dom k (by rw[hoz]at W;omega)
 ·rcases hent k _ W with hl|⟨hX,hl,SJ⟩
  ·exact h'.dead k hl
  ·have hd:=h.dead k hl
   have hh:(hide X lh)[k]? = some .hid:=by rw[hide_get,E5 hX,hl];rfl
   rw[(he.2 k hh).2];exact hd
 ·have hh:(hide X lh)[k]? = some .hid:=by
   rw[hide_get];split
   ·rw[W];rfl
   ·exact W
  let ⟨M,N⟩:=he.2 k hh
  refine⟨?_,N⟩;rw[vQ];split
  ·rw[W];simp[List.getD,M]
  ·exact W
theorem bf.hide {B:dB} {m:aH} {lh:List ar} {w:World} (h:bf B m lh w) (X:List Nat) :
 bf ⟨B.w0,w,λb=>∃k cs ty,k∉X/\lh[k]? = some (.cells cs ty)/\m k=some b,B.ds⟩ m (hide X lh) w:=by
 have U:∀ k cs ty,(Sx.hide X lh)[k]? = some (.cells cs ty)->k∉X/\lh[k]? = some (.cells cs ty):=λk cs ty W=>by
  rw[hide_get]at W;split at W
  ·cases hl:lh[k]? <;> rw[hl]at W<;>cases W
  ·exact⟨by assumption,W⟩
 refine⟨rfl,rfl,rfl,h.size,h.old,Em _,λ_ _ _=>rfl,λk cs ty W=>?_,λk k' b cs cs' ty ty' M N hb RQ=>?_,λk W=>h.dom k (by rw[hide_length]at W;exact W),λk W=>?_,h.rng⟩
 ·let ⟨hX,hl⟩:=U k cs ty W
  let ⟨b,vs,hb,RZ,hh,M,_⟩:=h.loc k cs ty hl
  exact⟨b,vs,hb,RZ,hh,M,.inr ⟨k,cs,ty,hX,hl,hb⟩⟩
 ·exact h.inj k k' b cs cs' ty ty' (U _ _ _ M).2 (U _ _ _ N).2 hb RQ
 ·rw[hide_get]at W;split at W
  ·cases hl:lh[k]? <;> rw[hl]at W<;>cases W
  ·exact h.dead k W
inductive EV where|run (v:af) (l:List ar)|skip
def pz (w0:World) (QZ:FuncId->b6) (R2:List Nat) (pl:Option Nat) (o:jq) (sl:List af) (hl:List ar) (K:EV->Prop):Prop :=
 match o.guard with
 |none=>dv w0 QZ sl hl pl (λv l=>kI R2 l hl/\K (.run v l)) o.op
 |some (d,want)=>
   match sl.getD d .any with
   |.bool b=>(b=want->dv w0 QZ sl hl pl (λv l=>kI R2 l hl/\K (.run v l)) o.op)/\(b=!want->K .skip)|.tup _=>K .skip|.int ..=>K .skip|_=>False
def kq (o:jq) (sl:List af):EV->List af
 |.run v _=>fv sl o.dst v|.skip=>fv sl o.dst (.tup [])
def lE (R2:List Nat) (lh:List ar):EV->List ar
 |.run _ l=>mix R2 lh l|.skip=>lh
def LC (w0:World) (QZ:FuncId->b6) (X R2:List Nat) (pl:Option Nat) (o:jq) (sl:List af) (lh:List ar) (K:List af->List ar->Prop):Prop :=
 pz w0 QZ R2 pl o sl (hide X lh) λe=>K (kq o sl e) (lE R2 lh e)
section
variable {P:Program} {QZ:FuncId->b6} {R2 X:List Nat} {pl:Option Nat} {o:jq} {sl sl':List af} {lh lh' hl:List ar} {w0:World}
theorem nl (hS:∀ f,(QZ f).Ok P f) {K K':EV->Prop} (W:∀ e,K e->K' e) (h:pz w0 QZ R2 pl o sl hl K):pz w0 QZ R2 pl o sl hl K':=by
 unfold pz at *
 split
 ·rename_i hg;rw[hg]at h;exact dO hS (λ_ _ ⟨a,b⟩=>⟨a,W _ b⟩) h
 ·rename_i d want hg
  rw[hg]at h;dsimp only at h;split at h
  ·exact⟨λe=>dO hS (λ_ _ ⟨a,b⟩=>⟨a,W _ b⟩) (h.1 e),λe=>W _ (h.2 e)⟩
  ·exact W _ h
  ·exact W _ h
  ·exact h.elim
theorem oO (hS:∀ f,(QZ f).Ok P f) {Qe:Prop} (h:pz w0 QZ R2 pl o sl hl λ_=>Qe):Qe:=by
 unfold pz at h;split at h
 ·exact ow hS (dO hS (K':=λ_ _=>Qe) (λ_ _ ⟨_,b⟩=>b) h)
 ·rename_i d want hg
  split at h
  ·rename_i b _
   by_cases e:b=want
   ·exact ow hS (dO hS (K':=λ_ _=>Qe) (λ_ _ ⟨_,b⟩=>b) (h.1 e))
   ·exact h.2 (by cases b<;>cases want<;>simp_all)
  ·exact h
  ·exact h
  ·exact h.elim
theorem CO (hd:NJ o.op=true):∃ d:Option EV,∀ K,pz w0 QZ R2 pl o sl hl K↔∃ e,d=some e/\K e:=by
 let ⟨d,hd⟩:=Bg (w0:=w0) (QZ:=QZ) (sl:=sl) (lh:=hl) (pl:=pl) hd
 have hrun:∃ d':Option EV,∀ K:EV->Prop,dv w0 QZ sl hl pl (λv l=>kI R2 l hl/\K (.run v l)) o.op↔∃ e,d'=some e/\K e:=by
  cases d with
  |none=>exact⟨none,λK=>(hd _).trans ⟨λ⟨_,_,e,_⟩=>(by cases e),λ⟨_,e,_⟩=>(by cases e)⟩⟩
  |some p=>
    let ⟨v,l⟩:=p
    by_cases hs:kI R2 l hl
    ·exact⟨some (.run v l),λK=>(hd _).trans ⟨λ⟨_,_,e,h⟩=>(by cases e;exact⟨_,rfl,h.2⟩),λ⟨_,e,h⟩=>(by cases e;exact⟨v,l,rfl,hs,h⟩)⟩⟩
    ·exact⟨none,λK=>(hd _).trans ⟨λ⟨_,_,e,h⟩=>(by cases e;exact(hs h.1).elim),λ⟨_,e,_⟩=>(by cases e)⟩⟩
 have hskip:∃d':Option EV,∀K:EV->Prop,K .skip↔∃e,d'=some e/\K e:=⟨some .skip,λK=>⟨λh=>⟨_,rfl,h⟩,λ⟨_,e,h⟩=>(by cases e;exact h)⟩⟩;unfold pz;cases hg:o.guard with
 |none=>exact hrun
 |some g=>
   let ⟨t,want⟩:=g
   simp only
   cases U:sl.getD t .any with
   |bool b=>
     simp only
     by_cases e:b=want
     ·let ⟨d',h'⟩:=hrun
      refine⟨d',λK=>⟨λh=>(h' K).1 (h.1 e),λh=>⟨λ_=>(h' K).2 h,λe'=>?_⟩⟩⟩;have:=e.symm.trans e';cases want<;>cases this
     ·let ⟨d',h'⟩:=hskip
      refine⟨d',λK=>⟨λh=>(h' K).1 (h.2 (by clear h h';cases b<;>cases want<;>first|rfl|exact(e rfl).elim)),λh=>⟨λe'=>(e e').elim,λ_=>(h' K).2 h⟩⟩⟩
   |tup _=>exact hskip|int _ _=>exact hskip|_=>exact⟨none,λK=>⟨λh=>h.elim,λ⟨_,e,_⟩=>(by cases e)⟩⟩
end
end Go.Sx
namespace Go.Sx
def lN.args:lN->List gq
 |.mov x|.box _ x|.ld x|.lds _ x|.nz x|.un _ x|.conv _ x|.fa _ x|.fld _ _ x|.len x|.lenT x|.ext x _|.isn _ x|.clr _ _ x=>[x]
 |.pick c a b=>[c,a,b]
 |.new ..|.lenA _|.mks ..=>[]
 |.agg _ ps|.bsl _ _ _ ps=>ps.map (·.2.2)
 |.st _ a x|.bin _ a x|.eqa _ _ a x|.eqb _ a x|.iaA _ _ a x|.iaS _ a x|.ixA _ _ _ a x|.ixS a x|.app _ _ _ _ a x=>[a,x]
 |.mkf _ xs ys=>xs++ys
 |.mm _ x xs=>x::xs
 |.slS _ x lo hi mx|.slA _ _ x lo hi mx=>x::(lo.toList++hi.toList++mx.toList)
 |.slT x lo hi=>x::(lo.toList++hi.toList)
 |.call _ xs=>xs
 |.callv x xs=>x::xs
def rV (xs:List gq):List Nat:=xs.filterMap λ|.t i=>some i|.k _=>none
def jq.reads (o:jq):List Nat:=rV o.op.args++(match o.guard with|some (d,_)=>[d]|none=>[])
section
variable {P:Program} {QZ:FuncId->b6} {R2 X:List Nat} {pl:Option Nat} {o:jq} {sl sl':List af} {lh lh' hl:List ar} {w0:World}
theorem hj' (ps:List (Nat×Nat×gq)) (K:List af->Prop) (h:∀ x∈ps.map (·.2.2),arg sl x=arg sl' x):∀ z,parts sl ps z K=parts sl' ps z K:=by
 induction ps with
 |nil=>intro z;rfl
 |cons p ps ih=>
   intro z
   let ⟨off,n,x⟩:=p
   simp[parts];rw[h x av,ih (λy hy=>h y (by simp at hy ⊢;exact .inr hy))]
theorem hJ {xs:List gq} (h:∀x∈xs,arg sl x=arg sl' x):xs.map (arg sl)=xs.map (arg sl'):=Jm h
theorem eo {x:Option gq} (h:∀ y∈x.toList,arg sl y=arg sl' y):x.map (arg sl)=x.map (arg sl'):=by
 cases x with
 |none=>rfl|some x=>simp[h x av]
theorem pK {op:lN} {K:af->List ar->Prop} (h:∀ x∈op.args,arg sl x=arg sl' x):dv w0 QZ sl lh pl K op=dv w0 QZ sl' lh pl K op:=by
 cases op<;>simp only[lN.args,HD,IP,or_false,MU,forall_eq,KD]at h<;>simp only[dv]
 case agg=>exact hj' _ _ h _
 case bsl=>exact hj' _ _ h _
 case mkf f xs ys=>rw[hJ (λx hx=>h x (.inl hx)),hJ (λx hx=>h x (.inr hx))]
 case mm=>rw[h.1,hJ h.2]
 case slS esz x lo hi mx=>rw[h.1,eo (λy hy=>h.2 y (.inl (.inl hy))),eo (λy hy=>h.2 y (.inl (.inr hy))),eo (λy hy=>h.2 y (.inr hy))]
 case slA n esz x lo hi mx=>rw[h.1,eo (λy hy=>h.2 y (.inl (.inl hy))),eo (λy hy=>h.2 y (.inl (.inr hy))),eo (λy hy=>h.2 y (.inr hy))]
 case slT x lo hi=>rw[h.1,eo (λy hy=>h.2 y (.inl hy)),eo (λy hy=>h.2 y (.inr hy))]
 case call=>rw[hJ h]
 case callv=>rw[h.1,hJ h.2]
 all_goals first
  |rfl|rw[h]|rw[h.1,h.2]|rw[h.1,h.2.1,h.2.2]
theorem hjr {K:EV->Prop} (h:∀ t∈o.reads,sl.getD t .any=sl'.getD t .any):pz w0 QZ R2 pl o sl hl K=pz w0 QZ R2 pl o sl' hl K:=by
 have ha:∀ x∈o.op.args,arg sl x=arg sl' x:=λx hx=>by
  cases x with
  |t i=>exact h i (Kv _ (List.mem_filterMap.2 ⟨_,hx,rfl⟩))|k v=>rfl
 unfold pz;cases hg:o.guard with
 |none=>exact pK ha
 |some g=>
   let ⟨d,want⟩:=g
   simp only
   rw[h d (by simp[jq.reads,hg]),pK ha]
def o3 (x y:jq):Bool :=
 (match x.dst with|some d=>!y.reads.contains d&&y.dst !=some d|none=>true)&&(match y.dst with|some d=>!x.reads.contains d|none=>true)
theorem pn {x y:jq} (h:o3 x y=true):(∀ d,x.dst=some d->d∉y.reads)/\(∀ d,x.dst=some d->y.dst≠some d)/\(∀ d,y.dst=some d->d∉x.reads):=by
 refine⟨λd hd=>?_,λd hd=>?_,λd hd=>?_⟩<;>simp[o3,hd]at h
 ·exact h.1.1
 ·exact h.1.2
 ·exact h.2
theorem hmN {d:Option Nat} {v:af} {t:Nat} (h:d≠some t):(fv sl d v).getD t .any=sl.getD t .any:=by
 cases d with
 |none=>rfl
 |some d=>simp only[fv];rw[Oi,G1,DX (λe=>h (by rw[e])),← Oi]
theorem hkw {x:jq} {e:EV} {t:Nat} (h:x.dst≠some t):(kq x sl e).getD t .any=sl.getD t .any:=by cases e<;>exact hmN h
theorem hkk {e:EV} (h:∀ k∈R2,k∈X):hide X (lE R2 lh e)=hide X lh:=by
 cases e with
 |skip=>rfl
 |run v l=>
   apply Hg;intro k;rw[hide_get,hide_get];simp[lE];rw[vQ];by_cases hX:k∈X
   ·rw[E5 hX,E5 hX]
    split
    ·cases lh[k]? <;> rfl
    ·rfl
   ·rw[DX hX,DX hX,DX (λhW=>hX (h k hW))]
theorem tJ {d d':Option Nat} {u v:af} (h:∀ k,d=some k->d'≠some k):fv (fv sl d u) d' v=fv (fv sl d' v) d u:=by
 cases d with
 |none=>rfl
 |some d=>cases d' with|none=>rfl|some d'=>exact List.set_comm _ _ (λe=>h d rfl (by rw[e]))
theorem hov {x y:jq} {e e':EV} (h:∀k,x.dst=some k->y.dst≠some k):kq y (kq x sl e) e'=kq x (kq y sl e') e:=by cases e<;>cases e'<;>exact tJ h
theorem hp' {V:List Nat} {e e':EV} (h:∀ k∈R2,k∉V):lE V (lE R2 lh e) e'=lE R2 (lE V lh e') e:=by
 cases e with
 |skip=>rfl
 |run v l=>cases e' with
   |skip=>rfl
   |run v' l'=>
     apply Hg;intro k;simp[lE,vQ];by_cases hW:k∈R2
     ·simp[hW,h k hW]
     ·simp[hW]
theorem ao2 (hS:∀ f,(QZ f).Ok P f) {x y:jq} {X' W':List Nat} {pl':Option Nat} (rO:o3 x y=true) (hdet:NJ x.op=true∨NJ y.op=true) (M:∀ k∈W',k∈X) (N:∀ k∈R2,k∈X') (h3:∀ k∈R2,k∉W')
 {K:List af->List ar->Prop} (h:LC w0 QZ X R2 pl x sl lh λTB lh1=>LC w0 QZ X' W' pl' y TB lh1 K):LC w0 QZ X' W' pl' y sl lh λTB lh1=>LC w0 QZ X R2 pl x TB lh1 K:=by
 let ⟨a1,a2,a3⟩:=pn rO
 have loc1:∀e (K:EV->Prop),pz w0 QZ W' pl' y (kq x sl e) (hide X' (lE R2 lh e)) K=pz w0 QZ W' pl' y sl (hide X' lh) K:=λe K=>by rw[hkk N];exact hjr λt ht=>hkw (λe=>a1 t e ht)
 have loc2:∀e (K:EV->Prop),pz w0 QZ R2 pl x (kq y sl e) (hide X (lE W' lh e)) K=pz w0 QZ R2 pl x sl (hide X lh) K:=λe K=>by rw[hkk M];exact hjr λt ht=>hkw (λe=>a3 t e ht)
 have comm:∀ex ey,K (kq y (kq x sl ex) ey) (lE W' (lE R2 lh ex) ey)↔K (kq x (kq y sl ey) ex) (lE R2 (lE W' lh ey) ex):=λex ey=>by rw[hov a2,hp' h3]
 unfold LC at *
 simp[loc1]at h;simp[loc2];rcases hdet with hd|hd
 ·let ⟨d,hd⟩:=CO (w0:=w0) (QZ:=QZ) (R2:=R2) (pl:=pl) (sl:=sl) (hl:=hide X lh) hd
  let ⟨ex,hex,h⟩:=(hd _).1 h
  exact nl hS (λey hK=>(hd _).2 ⟨ex,hex,(comm ex ey).1 hK⟩) h
 ·let ⟨d,hd⟩:=CO (w0:=w0) (QZ:=QZ) (R2:=W') (pl:=pl') (sl:=sl) (hl:=hide X' lh) hd
  have hsome:∃ey,d=some ey:=oO hS (nl hS (λex hy=>let ⟨ey,ch,_⟩:=(hd _).1 hy;⟨ey,ch⟩) h)
  let ⟨ey,ch⟩:=hsome
  refine(hd _).2 ⟨ey,ch,nl hS (λex hy=>?_) h⟩
  let ⟨ey',hey',hK⟩:=(hd _).1 hy
  rw[ch]at hey';cases hey';exact(comm ex ey).1 hK
theorem w8 (hS:∀ f,(QZ f).Ok P f) {K K':List af->List ar->Prop} (W:∀ s l,K s l->K' s l) (h:LC w0 QZ X R2 pl o sl lh K):LC w0 QZ X R2 pl o sl lh K' :=
 nl hS (λ_=>W _ _) h
end
inductive DY where|fresh (r:Nat)|slot (s:Nat)|load (s off:Nat)
structure jn where
 o:jq
 rk:Option Nat
 un:List Nat
 ws:List DY
def YW:lN->Bool
 |.st ..|.app ..|.new ..|.box ..|.bsl ..|.mks ..|.clr ..=>true|_=>false
def G8 (Ws:List (List Nat)) (i:Nat):List Nat:=Ws.getD i []
def GX (Ws:List (List Nat)) (un:List Nat):List Nat:=un.flatMap (G8 Ws)
def Dr (w0:World) (QZ:FuncId->b6) (ds:List jn) (Ws:List (List Nat)) (H i:Nat) (K:List af->List ar->Prop) (sl:List af) (lh:List ar):Prop :=
 match ds[i]? with
 |none=>K sl lh|some d=>LC w0 QZ (GX Ws d.un) (G8 Ws i) (d.rk.map (H+·)) d.o sl lh K
def Gc (w0:World) (QZ:FuncId->b6) (ops:Array Oper) (ds:List jn) (Ws:List (List Nat)) (H:Nat) (K:List af->List ar->Prop):Nat->Array Bool->List af->List ar->Prop
 |0,listed,sl,lh=>Region.ready .any ops listed=[]/\K sl lh
 | fuel+1,listed,sl,lh=>(Region.ready .any ops listed=[]->K sl lh) /\
    ∀i∈Region.ready .any ops listed,Dr w0 QZ ds Ws H i (Gc w0 QZ ops ds Ws H K fuel (listed.setIfInBounds i true)) sl lh
def Gg (ops:Array Oper):Nat->Nat->Nat->Bool
 |0,_,_=>false
 |f+1,j,i=>match ops[j]? with
   |some o=>o.after.toList.any λe=>Region.binds .any e&&(e.on==i||Gg ops f e.on i)
   |none=>false
def sO (ds:List jn) (i j:Nat):Bool :=
 match ds[i]?,ds[j]? with
 |some x,some y=>o3 x.o y.o&&(NJ x.o.op||NJ y.o.op)&&(!YW y.o.op||x.un.contains j)&&(!YW x.o.op||y.un.contains i)|_,_=>false
def rJ (ops:Array Oper) (ds:List jn):Bool :=
 (List.range ds.length).all λi=>(List.range ds.length).all λj=>i==j||Gg ops ds.length i j||Gg ops ds.length j i||sO ds i j
def Aw (ops:Array Oper):Nat->Nat->Array Bool->Bool
 |0,_,listed=>(Region.ready .any ops listed).isEmpty|f+1,k,listed=>(Region.ready .any ops listed).contains k&&Aw ops f (k+1) (listed.setIfInBounds k true)
def Kz (ds:List jn) (Ws:List (List Nat)):Prop:=∀(i:Nat) (d:jn),ds[i]? = some d->(YW d.o.op=false->G8 Ws i=[])/\∀k∈G8 Ws i,k∉GX Ws d.un
section
variable {P:Program} {QZ:FuncId->b6} {w0:World} {ops:Array Oper} {ds:List jn} {Ws:List (List Nat)} {H:Nat} {K:List af->List ar->Prop}
def gJ (ops:Array Oper) (listed:Array Bool):Prop:=∀k o,listed.getD k false=true->ops[k]? = some o->∀e∈o.after,Region.binds .any e=true->listed.getD e.on false=true
theorem fX {listed:Array Bool} (hc:gJ ops listed) {i:Nat}:∀ (f j:Nat) (o:Oper),ops[j]? = some o->(∀ e∈o.after,Region.binds .any e=true->listed.getD e.on false=true)->Gg ops f j i=true->listed.getD i false=true
 |0,_,_,_,_,h=>by simp[Gg]at h
 |f+1,j,o,ho,hall,h=>by
   simp only[Gg,ho,List.any_eq_true,Eg,II,HX]at h
   let ⟨e,he,hb,h⟩:=h
   have rn:e∈o.after:=by simpa using he
   have hl:=hall e rn hb;rcases h with rfl|h
   ·exact hl
   ·cases Ur:ops[e.on]? with|none=>cases f<;>simp[Gg,Ur]at h|some o'=>exact fX hc f e.on o' Ur (λe' rn RQ=>hc e.on o' hl Ur e' rn RQ) h
theorem ga {listed:Array Bool} (hc:gJ ops listed) {i:Nat} (hi:i∈Region.ready .any ops listed):gJ ops (listed.setIfInBounds i true):=by
 intro k o W ho e he hb
 let ⟨_,oi,U9,hall⟩:=mem_ready.1 hi
 by_cases hki:i=k
 ·subst hki;rw[U9]at ho;cases ho;exact getD_set_true (hall e he hb)
 ·exact getD_set_true (hc k o (by rwa [getD_set_ne false hki]at W) ho e he hb)
theorem IUn (Tb:Kz ds Ws) {j:Nat} {x y:jn} (hy:ds[j]? = some y) (h:(!YW y.o.op||x.un.contains j)=true):∀ k∈G8 Ws j,k∈GX Ws x.un:=by
 intro k W;cases hw:YW y.o.op with
 |true=>simp[hw]at h;exact List.mem_flatMap.2 ⟨j,h,W⟩
 |false=>rw[(Tb j y hy).1 hw]at W;cases W
theorem xo (hS:∀ f,(QZ f).Ok P f) {i:Nat} {K K':List af->List ar->Prop} (W:∀ s l,K s l->K' s l) {sl:List af} {lh:List ar} (h:Dr w0 QZ ds Ws H i K sl lh):Dr w0 QZ ds Ws H i K' sl lh:=by
 unfold Dr at *
 split at h
 ·exact W _ _ h
 ·exact w8 hS W h
theorem htN (hS:∀ f,(QZ f).Ok P f) (hw:Kz ds Ws) {i j:Nat} (hg:sO ds i j=true) {K:List af->List ar->Prop} {sl:List af} {lh:List ar}
 (h:Dr w0 QZ ds Ws H i (Dr w0 QZ ds Ws H j K) sl lh):Dr w0 QZ ds Ws H j (Dr w0 QZ ds Ws H i K) sl lh:=by
 unfold sO at hg;split at hg
 ·rename_i x y hx hy
  simp only[Eg]at hg
  let ⟨⟨⟨g1,g2⟩,g3⟩,g4⟩:=hg
  unfold Dr at h ⊢;simp only[hx,hy]at h ⊢;have s1:=IUn (x:=x) hw hy g3;have s2:=IUn (x:=y) hw hx g4;exact ao2 hS g1 (by simpa using g2) s1 s2 (λk W SP=>(hw i x hx).2 k W (s1 k SP)) h
 ·cases hg
theorem hsl0 (hS:∀ f,(QZ f).Ok P f) (hw:Kz ds Ws) (hp:rJ ops ds=true) (hlen:ds.length=ops.size) {i:Nat}:∀ (fuel:Nat) (listed:Array Bool) (sl:List af) (lh:List ar),gJ ops listed->i∈Region.ready .any ops listed ->
 Dr w0 QZ ds Ws H i (Gc w0 QZ ops ds Ws H K fuel (listed.setIfInBounds i true)) sl lh->Gc w0 QZ ops ds Ws H K (fuel+1) listed sl lh:=by
 have good:∀ (listed:Array Bool) (j:Nat),gJ ops listed->i∈Region.ready .any ops listed->j∈Region.ready .any ops listed->j≠i->sO ds i j=true:=λlisted j hc hi hj SQ=>by
  let ⟨ui,oi,U9,ai⟩:=mem_ready.1 hi
  let ⟨uj,oj,VR,aj⟩:=mem_ready.1 hj
  have li:i<ds.length:=by rw[hlen];exact(Array.getElem?_eq_some_iff.1 U9).1
  have lj:j<ds.length:=by rw[hlen];exact(Array.getElem?_eq_some_iff.1 VR).1
  simp only[rJ,JF,List.mem_range]at hp;have:=hp i li j lj;simp only[II,HX]at this;have no:∀ {x:Nat},listed.getD x true=false->listed.getD x false=true->False:=λ{x} M N=>by
   rcases Hl x listed.size with h|h
   ·simp[h]at M N;rw[M]at N;cases N
   ·simp[MX h]at M
  rcases this with ((h|h)|h)|h
  ·exact(SQ h.symm).elim
  ·exact(no uj (fX hc _ i oi U9 ai h)).elim
  ·exact(no ui (fX hc _ j oj VR aj h)).elim
  ·exact h
 intro fuel;induction fuel with
 |zero=>
   intro listed sl lh hc hi Qa;refine⟨λh=>(by rw[h]at hi;cases hi),λj hj=>?_⟩;by_cases Sl:j=i
   ·subst Sl;exact Qa
   ·exfalso
    have hr:=ready_mono hj Sl;have hnil:Region.ready .any ops (listed.setIfInBounds i true)=[]:=by
     have:Dr w0 QZ ds Ws H i (λ_ _=>Region.ready .any ops (listed.setIfInBounds i true)=[]) sl lh:=xo hS (λ_ _ h=>h.1) Qa;unfold Dr at this;split at this
     ·exact this
     ·exact oO hS this
    rw[hnil]at hr;cases hr
 |succ fuel ih=>
   intro listed sl lh hc hi Qa;refine⟨λh=>(by rw[h]at hi;cases hi),λj hj=>?_⟩;by_cases Sl:j=i
   ·subst Sl;exact Qa
   ·have M:Dr w0 QZ ds Ws H i (Dr w0 QZ ds Ws H j (Gc w0 QZ ops ds Ws H K fuel ((listed.setIfInBounds i true).setIfInBounds j true))) sl lh :=
     xo hS (λs l h=>h.2 j (ready_mono hj Sl)) Qa
    have N:=htN hS hw (good listed j hc hi hj Sl) M;refine xo hS (λs l h=>ih _ s l (ga hc hj) (ready_mono hi (Ne.symm Sl)) ?_) N;rw[Ol _ _ Sl];exact h
def km (w0:World) (QZ:FuncId->b6) (Ws:List (List Nat)) (H:Nat) (K:List af->List ar->Prop):List jn->Nat->List af->List ar->Prop
 |[],_,sl,lh=>K sl lh|d::rest,i,sl,lh=>LC w0 QZ (GX Ws d.un) (G8 Ws i) (d.rk.map (H+·)) d.o sl lh (km w0 QZ Ws H K rest (i+1))
theorem nR (hS:∀ f,(QZ f).Ok P f) (hw:Kz ds Ws) (hp:rJ ops ds=true) (hlen:ds.length=ops.size):∀ (l:List jn) (k:Nat) (listed:Array Bool) (sl:List af) (lh:List ar),(∀ j,l[j]? = ds[k+j]?) ->
 Aw ops l.length k listed=true->gJ ops listed->km w0 QZ Ws H K l k sl lh->Gc w0 QZ ops ds Ws H K l.length listed sl lh
 |[],_,_,_,_,_,hB,_,h=>⟨by simpa[Aw] using hB,h⟩
 |d::l,k,listed,sl,lh,hl,hB,hc,h=>by
   have h0:ds[k]? = some d:=by simpa using(hl 0).symm
   simp[HC,Aw,Eg]at hB
   let ⟨hr,hB'⟩:=hB
   have W3:k∈Region.ready .any ops listed:=by simpa using hr
   refine hsl0 hS hw hp hlen l.length listed sl lh hc W3 ?_;unfold Dr;simp[h0];refine w8 hS (λs l' h=>?_) h;exact nR hS hw hp hlen l (k+1) _ s l' (λj=>by have:=hl (j+1);simpa[Ik,Js 1 j] using this) hB' (ga hc W3) h
end
end Go.Sx
namespace Go.Sx
mutual
def ren (τ:Nat->Nat):af->af
 |.ptr (some (.l k off))=>.ptr (some (.l (τ k) off))|.slice (some (.l k off)) n c=>.slice (some (.l (τ k) off)) n c|.fn f xs ys=>.fn f (xL τ xs) (xL τ ys)|.agg cs=>.agg (xL τ cs)|.tup cs=>.tup (xL τ cs)|a=>a
def xL (τ:Nat->Nat):List af->List af
 |[]=>[]|a::l=>ren τ a::xL τ l
end
mutual
def lO (p:Nat->Prop):af->Prop
 |.ptr (some (.l k _))=>p k|.slice (some (.l k _)) _ _=>p k|.fn _ xs ys=>kh p xs/\kh p ys|.agg cs=>kh p cs|.tup cs=>kh p cs|_=>True
def kh (p:Nat->Prop):List af->Prop
 |[]=>True|a::l=>lO p a/\kh p l
end
mutual
theorem Dl {m m1:aH} {τ:Nat->Nat} {p:Nat->Prop} (h:∀ k b,p k->m (τ k)=some b->m1 k=some b):∀ (a:af) (v:Value),lO p a->Dy m (ren τ a) v->Dy m1 a v
 |.int ..,_,_,U=>by simp[ren,Dy]at U ⊢;exact U
 |.bool ..,_,_,U=>by simp[ren,Dy]at U ⊢;exact U
 |.str ..,_,_,U=>by simp[ren,Dy]at U ⊢;exact U
 |.ptr none,_,_,U=>by simp[ren,Dy,d6]at U ⊢;exact U
 |.ptr (some (.g _)),_,_,U=>by simp[ren,Dy,d6]at U ⊢;exact U
 |.ptr (some (.l k off)),_,hp,U=>by
   simp[lO]at hp;simp[ren,Dy,d6]at U ⊢
   let ⟨At,M,b,N,h3⟩:=U
   exact⟨At,M,b,h k b hp N,h3⟩
 |.slice none _ _,_,_,U=>by simp[ren,Dy,d6]at U ⊢;exact U
 |.slice (some (.g _)) _ _,_,_,U=>by simp[ren,Dy,d6]at U ⊢;exact U
 |.slice (some (.l k off)) _ _,_,hp,U=>by
   simp[lO]at hp;simp[ren,Dy,d6]at U ⊢
   let ⟨At,M,b,N,h3⟩:=U
   exact⟨At,M,b,h k b hp N,h3⟩
 |.fn _ xs ys,_,hp,U=>by simp[lO]at hp;simp[ren,Dy]at U ⊢;let ⟨us,vs,M,N,h3⟩:=U;exact⟨us,vs,M,nj h xs _ hp.1 N,nj h ys _ hp.2 h3⟩
 |.agg cs,_,hp,U=>by simp[lO]at hp;simp[ren,Dy]at U ⊢;let ⟨vs,M,N⟩:=U;exact⟨vs,M,nj h cs _ hp N⟩
 |.tup cs,_,hp,U=>by simp[lO]at hp;simp[ren,Dy]at U ⊢;let ⟨vs,M,N⟩:=U;exact⟨vs,M,nj h cs _ hp N⟩
 |.raw _,_,_,U=>by simp[ren,Dy]at U ⊢;exact U
 |.any,_,_,_=>by simp[Dy]
theorem nj {m m1:aH} {τ:Nat->Nat} {p:Nat->Prop} (h:∀ k b,p k->m (τ k)=some b->m1 k=some b):∀ (az:List af) (vs:List Value),kh p az->aB m (xL τ az) vs->aB m1 az vs
 |[],_,_,U=>by simp[xL,aB]at U ⊢;exact U
 |a::az,_,hp,U=>by simp[kh]at hp;simp[xL,aB]at U ⊢;let ⟨u,us,M,N,h3⟩:=U;exact⟨u,us,M,Dl h a u hp.1 N,nj h az us hp.2 h3⟩
end
def mY:List af->List af->Prop
 |[],[]=>True|a::l,a'::l'=>(a=.any∨a'=a)/\mY l l'|_,_=>False
theorem hlk {m:aH}:∀ {l l':List af} {vs:List Value},mY l l'->aB m l' vs->aB m l vs
 |[],[],_,_,h=>h
 |a::l,a'::l',vs,hs,h=>by
   simp[mY]at hs;simp[aB]at h ⊢;obtain⟨u,us,rfl,M,N⟩:=h;refine⟨u,us,rfl,?_,hlk hs.2 N⟩;rcases hs.1 with rfl|rfl
   ·simp[Dy]
   ·exact M
 |[],_::_,_,h,_=>by simp[mY]at h
 |_::_,[],_,h,_=>by simp[mY]at h
def mN (p:Nat->Prop) (τ:Nat->Nat):List af->List af->Prop
 |[],[]=>True|a::l,a'::l'=>(a=.any∨(lO p a/\a'=ren τ a))/\mN p τ l l'|_,_=>False
theorem qZ {m m1:aH} {p:Nat->Prop} {τ:Nat->Nat} (hm:∀ k b,p k->m (τ k)=some b->m1 k=some b):∀ {l l':List af} {vs:List Value},mN p τ l l'->aB m l' vs->aB m1 l vs
 |[],[],_,_,h=>by simp[aB]at h ⊢;exact h
 |a::l,a'::l',vs,hs,h=>by
   simp[mN]at hs;simp[aB]at h ⊢;obtain⟨u,us,rfl,M,N⟩:=h;refine⟨u,us,rfl,?_,qZ hm hs.2 N⟩;rcases hs.1 with rfl|⟨h3,rfl⟩
   ·simp[Dy]
   ·exact Dl hm a u h3 M
 |[],_::_,_,h,_=>by simp[mN]at h
 |_::_,[],_,h,_=>by simp[mN]at h
def isCells:Option ar->Bool
 |some (.cells ..)=>true|_=>false
def Te (nb:Nat) (lh:List ar) (k:Nat):Prop:=k<nb∨isCells lh[k]? = true
structure aqf (nb:Nat) (τ:Nat->Nat) (sl:List af) (lh:List ar) (TB:List af) (lh1:List ar):Prop where
 fix:∀k,k<nb->τ k=k
 len:nb<=lh1.length
 same:∀k,k<nb->isCells lh1[k]? = false->lh1[k]? = lh[k]?
 slots:mN (Te nb lh1) τ TB sl
 heap:∀k cs ty,lh1[k]? = some (.cells cs ty)->∃cs',lh[τ k]? = some (.cells cs' ty)/\mN (Te nb lh1) τ cs cs'
 inj:∀k k',isCells lh1[k]? = true->isCells lh1[k']? = true->τ k=τ k'->k=k'
def Sub (nb:Nat) (sl:List af) (lh:List ar) (TB:List af) (lh1:List ar):Prop:=(lh1=lh/\mY TB sl)∨∃τ,aqf nb τ sl lh TB lh1
def oH (nb:Nat) (lh:List ar) (m:aH) (lh':List ar) (m':aH):Prop :=
 (∀k b,k < nb->m k=some b->m' k=some b)/\∀k,k < nb->lh[k]? = some .hid->lh'[k]? = some .hid/\m' k=m k
theorem oH.refl (nb:Nat) (lh:List ar) (m:aH):oH nb lh m lh m:=⟨λ_ _ _ h=>h,λ_ _ h=>⟨h,rfl⟩⟩
theorem oH.trans {nb:Nat} {l1 l2 l3:List ar} {m1 m2 m3:aH} (h:oH nb l1 m1 l2 m2) (k:oH nb l2 m2 l3 m3):oH nb l1 m1 l3 m3 :=
 ⟨λj b hj hb=>k.1 j b hj (h.1 j b hj hb),λj hj hl=>⟨(k.2 j hj (h.2 j hj hl).1).1,((k.2 j hj (h.2 j hj hl).1).2).trans (h.2 j hj hl).2⟩⟩
theorem jB.toN {lh lh':List ar} {m m':aH} (h:jB lh m lh' m') (nb:Nat):oH nb lh m lh' m':=⟨λk b _ hb=>h.1 k b hb,λk _ hl=>h.2 k hl⟩
section
variable {B:dB}
theorem Sub.rel {nb:Nat} {m:aH} {sl TB:List af} {lh lh1:List ar} {a:Act} {w:World} (hs:Sub nb sl lh TB lh1) (h:kd B m sl lh a w) :
 ∃m1,kd B m1 TB lh1 a w/\oH nb lh m lh1 m1:=by
 rcases hs with ⟨rfl,hs⟩|⟨τ,hs⟩
 ·exact⟨m,⟨hlk hs h.1,h.2.1,h.2.2⟩,oH.refl _ _ _⟩
 ·let m1 : aH:=λk=>if k<nb then m k else if isCells lh1[k]? then m (τ k) else none
  have hm:∀ k b,Te nb lh1 k->m (τ k)=some b->m1 k=some b:=λk b W hb=>by
   simp[m1];split
   ·rename_i Qw;rw[hs.fix k Qw]at hb;exact hb
   ·rename_i Qw
    rcases W with W|W
    ·exact(Qw W).elim
    ·rw[E5 W];exact hb
  have Uq:∀ k b,m1 k=some b->m (τ k)=some b:=λk b hb=>by
   simp[m1]at hb;split at hb
   ·rename_i Qw;rw[hs.fix k Qw];exact hb
   ·split at hb
    ·exact hb
    ·cases hb
  let ⟨M,N,h3⟩:=h
  refine⟨m1,⟨qZ hm hs.slots M,N,⟨h3.os,h3.tape,h3.output,h3.size,h3.old,h3.fsize,h3.kept,λk cs ty W=>?_,λk k' b cs cs' ty ty' g1 g2 hb RQ=>?_,λk W=>?_,λk W=>?_,λk b W=>h3.rng _ b (Uq k b W)⟩⟩,λk b W hb=>?_,λk W hl=>?_⟩
  ·let ⟨cs',hl,hsub⟩:=hs.heap k cs ty W
   let ⟨b,vs,hb,RZ,hh,hx⟩:=h3.loc (τ k) cs' ty hl
   exact⟨b,vs,hm k b (.inr (by rw[W];rfl)) hb,qZ hm hsub RZ,hh,hx⟩
  ·let ⟨c1,Yc,_⟩:=hs.heap k cs ty g1
   let ⟨c2,tZ,_⟩:=hs.heap k' cs' ty' g2
   exact hs.inj k k' (by rw[g1];rfl) (by rw[g2];rfl) (h3.inj _ _ b c1 c2 ty ty' Yc tZ (Uq k b hb) (Uq k' b RQ))
  ·have hn:¬ k<nb:=by have:=hs.len;omega
   simp[m1];rw[DX hn,GE W];rfl
  ·simp [m1]
   split
   ·rename_i Qw;have:=hs.same k Qw (by rw[W];rfl);exact h3.dead k (by rw[← this];exact W)
   ·rw[W];rfl
  ·simp[m1];rw[E5 W];exact hb
  ·have hc:isCells lh1[k]? = false:=by
    cases hc:isCells lh1[k]? with
    |false=>rfl
    |true=>
      exfalso;generalize hg:lh1[k]? = g at hc;cases g with
      |none=>cases hc
      |some ob=>cases ob with
        |cells cs ty=>
          let ⟨cs',SJ,_⟩:=hs.heap k cs ty hg
          rw[hs.fix k W,hl]at SJ;cases SJ
        |_=>cases hc
   exact⟨by rw[hs.same k W hc];exact hl,by simp only[m1];rw[E5 W]⟩
end
def aaE:lN->Bool
 |.new ..|.box ..|.bsl ..|.app ..|.mks ..=>true|_=>false
def yf:af->List Nat
 |.ptr (some (.l k _))=>[k]|.slice (some (.l k _)) _ _=>[k]|_=>[]
def look (xs : List jq) (rks:List (Option Nat)):Nat->Nat->gq->List DY
 |0,_,_=>[]|_+1,_,.k _=>[]
 |f+1,n,.t s=>match (xs.take n).findIdx? (λx=>x.dst==some s) with
   |none=>[.slot s]
   |some i=>match xs[i]? with
     |none=>[]
     |some x=>match x.op with
       |.new ..|.box ..|.bsl ..|.mks ..=>(match rks.getD i none with|some r=>[.fresh r]|none=>[])|.fa _ a|.iaA _ _ a _|.iaS _ a _|.nz a|.mov a|.slS _ a ..=>look xs rks f i a|.app _ _ _ _ a _=>look xs rks f i a++(match rks.getD i none with|some r=>[.fresh r]|none=>[])
       |.ld (.t p)=>match (xs.take i).findIdx? (λx=>x.dst==some p) with
         |none=>[.load p 0]
         |some j=>match xs[j]? with
           |some y=>match y.op with|.fa off (.t At)=>[.load At off]|_=>[]
           |none=>[]
       |_=>[]
def UR (w0:World) (lh:List ar) (sl:List af) (H:Nat):DY->List Nat
 |.fresh r=>[H+r]|.slot s=>yf (sl.getD s .any)
 |.load s off=>match sl.getD s .any with
   |.ptr (some p)=>match ld w0 lh (p.add off) with|some v=>yf v|none=>[]
   |_=>[]
def uI (w0:World) (lh:List ar) (sl:List af) (H:Nat):List DY->List Nat
 |[]=>[]|x::l=>UR w0 lh sl H x++uI w0 lh sl H l
def me (w0:World) (lh:List ar) (sl:List af) (H:Nat):List jn->List (List Nat)
 |[]=>[]|d::l=>uI w0 lh sl H d.ws::me w0 lh sl H l
theorem pZ (w0:World) (lh:List ar) (sl:List af) (H:Nat):∀ (l:List jn) (i:Nat),(me w0 lh sl H l).getD i []=match l[i]? with|some d=>uI w0 lh sl H d.ws|none=>[]
 |[],i=>by simp[me]
 |d::l,0=>by simp[me]
 |d::l,i+1=>by simp[me,He];rw[← pZ w0 lh sl H l i];simp[List.getD]
def Jf (k:Nat):List Nat->Prop
 |[]=>True|x::l=>k≠x/\Jf k l
def M9:List Nat->List Nat->Prop
 |[],_=>True|k::l,X=>Jf k X/\M9 l X
theorem Ad {k:Nat}:∀ {l:List Nat},Jf k l->k∉l
 |[],_=>by simp
 |x::l,h=>by simp[Jf]at h;simp[HD,not_or];exact⟨h.1,Ad h.2⟩
theorem Dq:∀ {l X:List Nat},M9 l X->∀ k∈l,k∉X
 |[],_,_,k,W=>by cases W
 |x::l,X,h,k,W=>by
   simp[M9]at h;rcases List.mem_cons.1 W with rfl|W
   ·exact Ad h.1
   ·exact Dq h.2 k W
def Es (Ws:List (List Nat)):List jn->Nat->Prop
 |[],_=>True|d::l,i=>M9 (G8 Ws i) (GX Ws d.un)/\Es Ws l (i+1)
theorem oV {ds:List jn} {Ws:List (List Nat)}:∀ (l:List jn) (k:Nat),(∀ j,l[j]? = ds[k+j]?)->Es Ws l k->∀ (i:Nat) (d:jn),ds[k+i]? = some d->∀ x∈G8 Ws (k+i),x∉GX Ws d.un
 |[],k,hl,_,i,d,hd=>by have:=hl i;rw[hd]at this;simp at this
 |e::l,k,hl,h,i,d,hd=>by
   simp[Es]at h;cases i with
   |zero=>have h0:=hl 0;simp[I6]at hd h0 ⊢;rw[hd]at h0;simp at h0;subst h0;exact Dq h.1
   |succ i=>have:=oV l (k+1) (λj=>by have:=hl (j+1);simpa[Ik,Js 1 j] using this) h.2 i d (by rw[show k+1+i=k+(i+1) from by omega];exact hd);rw[show k+1+i=k+(i+1) from by omega]at this;exact this
def QB (ds:List jn):Nat:=(ds.filter λd=>aaE d.o.op).length
def nP (w0:World) (QZ:FuncId->b6) (ds:List jn) (sl:List af) (lh:List ar) (K:List af->List ar->Prop):Prop :=
 Es (me w0 lh sl lh.length ds) ds 0/\km w0 QZ (me w0 lh sl lh.length ds) lh.length K ds 0 sl (lh++List.replicate (QB ds) .dead)
def cS:List jq->Nat->List (Option Nat)
 |[],_=>[]|x::l,r=>if aaE x.op then some r::cS l (r+1) else none::cS l r
def iT (ops:Array Oper) (xs:List jq) (rks:List (Option Nat)):List jq->Nat->List jn
 |[],_=>[]
 | x::l,i=>⟨x,rks.getD i none,(List.range xs.length).filter λj=>j != i&&(match xs[j]? with|some y=>YW y.op|none=>false)&&!Gg ops xs.length i j&&!Gg ops xs.length j i,
    match x.op with
    |.new ..|.box ..|.bsl ..|.mks ..=>(match rks.getD i none with|some r=>[.fresh r]|none=>[])|.st _ a _=>look xs rks 8 i a|.clr _ _ a=>look xs rks 8 i a|.app _ _ _ _ a _=>look xs rks 8 i a++(match rks.getD i none with|some r=>[.fresh r]|none=>[])|_=>[]⟩::iT ops xs rks l (i+1)
def rG (P:Program) (BN:List TypeId) (ops:Array Oper):Option (List jn) :=
 match fZ P BN ops ops.toList with
 |none=>none
 |some xs=>
   if P.follows .mixedOrders&&rJ ops (iT ops xs (cS xs 0) xs 0)&&Aw ops (iT ops xs (cS xs 0) xs 0).length 0 (Array.replicate ops.size false)&&(iT ops xs (cS xs 0) xs 0).length==ops.size &&
    (iT ops xs (cS xs 0) xs 0).all (λd=>YW d.o.op||d.ws.isEmpty) then some (iT ops xs (cS xs 0) xs 0) else none
theorem yt (ops:Array Oper) (xs:List jq) (rks:List (Option Nat)):∀ (l:List jq) (i j:Nat),(iT ops xs rks l i)[j]?.map jn.o=l[j]?
 |[],_,_=>by simp[iT]
 |x::l,i,0=>by simp[iT]
 |x::l,i,j+1=>by simp[iT,He];exact yt ops xs rks l _ j
section
variable {P:Program} {B:dB} {QZ:FuncId->b6} {BN:List TypeId} {F:Fence} {n:Nat} {ops:Array Oper} {ds:List jn} {Ws:List (List Nat)}
theorem lY:∀ (l:List Oper) (xs:List jq) (j:Nat) (o:Oper),fZ P BN ops l=some xs->l[j]? = some o->∃ x,xs[j]? = some x/\lG P BN ops o=some x
 |[],_,_,_,_,h=>by simp at h
 |a::l,xs,j,o,hc,h=>by
   simp[fZ]at hc;split at hc
   ·rename_i x xs' hx TS
    cases hc;cases j with
    |zero=>simp at h;subst h;exact⟨x,rfl,hx⟩|succ j=>exact lY l xs' j o TS (by simpa using h)
   ·cases hc
theorem hl2 (hF:lk F) (hS:∀ f,(QZ f).Ok P f) (hE:∀ t∈BN,dw P t) {X R2:List Nat} {pl:Option Nat} {o:Oper} {x:jq} {i:Nat} (ho:ops[i]? = some o) (hx:lG P BN ops o=some x)
 {K:List af->List ar->Prop} {K':Act->World->Prop} {Qe:Exit->Act->World->Prop} {sl:List af} {lh:List ar} {m:aH} {a:Act} {w:World} (hs:kd B m sl lh a w) (h:LC B.w0 QZ X R2 pl x sl lh K)
 (hK:∀sl' lh' m' a' w',kd B m' sl' lh' a' w'->jB lh m lh' m'->K sl' lh'->K' a' w'):wpOpIn F n P ops Qe i K' a w:=by
 have hSS:∀f,(QZ f).Sound P f:=λf=>(hS f).sound
 have run:∀ {j:lN} (hj:jA P BN o=some j),x.op=j->x.dst=o.dst->dv B.w0 QZ sl (hide X lh) pl (λv l=>kI R2 l (hide X lh)/\K (kq x sl (.run v l)) (lE R2 lh (.run v l))) j ->
  o.wpIn F n P a w K' Qe:=λ{j} hj e1 e2 U=>by
  have hres:=pR (B:=⟨B.w0,w,λb=>∃k cs ty,k∉X/\lh[k]? = some (.cells cs ty)/\m k=some b,B.ds⟩) hSS hE hj hs.1 (hs.2.2.hide X) U;refine jN hF hj hres λv w' ⟨r,m',lh',M,N,h3,h4,h5⟩=>?_
  let ⟨g1,g2⟩:=hs.2.2.unhide h3 N h4
  simp[kq,e2]at h5;exact hK _ _ m' _ _ (hs.put g2.1 g1 o.dst M) g2 h5
 have skip:∀(e2:x.dst=o.dst),K (kq x sl .skip) lh->K' (a.put o.dst undef) w:=λe2 W=>by simp[kq,e2]at W;exact hK _ _ m _ _ (hs.put (aH.le_refl m) hs.2.2 o.dst (by simp[Dy,aB,undef])) (jB.refl _ _) W
 unfold wpOpIn;simp[ho];unfold LC pz at h;unfold lG at hx;split at hx
 ·rename_i j hj hg;cases hx;dsimp only at h;rw[E5 (by simp[Region.wanted,hg])];exact run hj rfl rfl h
 ·rename_i j nza15 want hj hg
  split at hx
  ·rename_i d hd
   cases hx;dsimp only at h
   let ⟨y1,y2,y3⟩:=rC (ops:=ops) hs.1 hd
   split at h
   ·rename_i b hb
    have hy:=y1 b hb;by_cases WY:b=want
    ·subst WY;rw[E5 (by simp[Region.wanted,hg,hy])];exact run hj rfl rfl (h.1 rfl)
    ·rw[DX (by simp[Region.wanted,hg,hy,WY])];exact⟨λf _=>hF.fn f,skip rfl (h.2 (by cases b<;>cases want<;>simp_all))⟩
   ·rename_i vs hb;rw[DX (by simp[Region.wanted,hg,y2 _ hb])];exact⟨λf _=>hF.fn f,skip rfl h⟩
   ·rename_i hb;rw[DX (by simp[Region.wanted,hg,y3 _ _ hb])];exact⟨λf _=>hF.fn f,skip rfl h⟩
   ·exact h.elim
  ·cases hx
 ·cases hx
theorem hkb (hF:lk F) (hS:∀ f,(QZ f).Ok P f) (hE:∀ t∈BN,dw P t) {H:Nat} {xs:List jq} (hc:fZ P BN ops ops.toList=some xs) (hd:∀ j:Nat,ds[j]?.map jn.o=xs[j]?)
 {K:List af->List ar->Prop} {Qe:Exit->Act->World->Prop} {lh0:List ar} {m0:aH} (hQ:∀sl' lh' m' a' w',kd B m' sl' lh' a' w'->jB lh0 m0 lh' m'->K sl' lh'->Qe .normal a' w') :
 ∀(fuel:Nat) (listed:Array Bool) (sl:List af) (lh:List ar) (m:aH) (a:Act) (w:World),kd B m sl lh a w->jB lh0 m0 lh m->Gc B.w0 QZ ops ds Ws H K fuel listed sl lh->wpAnyIn F n P .any ops Qe fuel listed a w
 |0,_,_,_,_,_,_,hs,he,h=>⟨h.1,hQ _ _ _ _ _ hs he h.2⟩
 |fuel+1,listed,sl,lh,m,a,w,hs,he,h=>by
   refine⟨λhr=>hQ _ _ _ _ _ hs he (h.1 hr),λi hi=>?_⟩;have N:=h.2 i hi
   let ⟨_,o,ho,_⟩:=mem_ready.1 hi
   let ⟨x,hx,V8⟩:=lY ops.toList xs i o hc (by simpa using ho)
   have TY:=hd i;rw[hx]at TY;simp[Fy]at TY
   let ⟨d,U3,U4⟩:=TY
   unfold Dr at N;simp[U3]at N;rw[U4]at N;exact hl2 hF hS hE ho V8 hs N λsl' lh' m' a' w' h3 h4 h5=>hkb hF hS hE hc hd hQ fuel _ sl' lh' m' a' w' h3 (he.trans h4) h5
theorem bf.deads {m:aH} {lh:List ar} {w:World} (h:bf B m lh w) (k:Nat):bf B m (lh++List.replicate k .dead) w:=by
 have hg:∀ j o,(lh++List.replicate k ar.dead)[j]? = some o->lh[j]? = some o∨(lh.length<=j/\o=.dead):=λj o hj=>by
  rw[HO]at hj;split at hj
  ·exact .inl hj
  ·rename_i Qw
   right;rw[List.getElem?_replicate]at hj;split at hj
   ·cases hj;exact⟨E,rfl⟩
   ·cases hj
 refine⟨h.os,h.tape,h.output,h.size,h.old,h.fsize,h.kept,λj cs ty hj=>?_,λj j' b cs cs' ty ty' M N hb RQ=>?_,λj hj=>h.dom j (by simp at hj;omega),λj hj=>?_,h.rng⟩
 ·rcases hg j _ hj with hl|⟨_,e⟩
  ·exact h.loc j cs ty hl
  ·cases e
 ·rcases hg j _ M with hl|⟨_,e⟩
  ·rcases hg j' _ N with SJ|⟨_,e⟩
   ·exact h.inj j j' b cs cs' ty ty' hl SJ hb RQ
   ·cases e
  ·cases e
 ·rcases hg j _ hj with hl|⟨Rb,_⟩
  ·exact h.dead j hl
  ·exact h.dom j Rb
theorem hfo (hF:lk F) (hS:∀ f,(QZ f).Ok P f) (hE:∀ t∈BN,dw P t) {id:Nat} (hc:rG P BN ops=some ds) {K:List af->List ar->Prop} {Qe:Exit->Act->World->Prop} {sl:List af} {lh:List ar} {m:aH} {a:Act} {w:World}
 (hs:kd B m sl lh a w) (h:nP B.w0 QZ ds sl lh K) (hQ:∀sl' lh' m' a' w',kd B m' sl' lh' a' w'->jB lh m lh' m'->K sl' lh'->Qe .normal a' w'):(Code.region id ops true).wpIn F n P Qe a w:=by
 unfold rG at hc;split at hc
 ·cases hc
 ·rename_i xs TS
  split at hc
  ·rename_i hcond
   cases hc;simp only[Eg,HX]at hcond
   let ⟨⟨⟨⟨M,N⟩,h3⟩,h4⟩,h5⟩:=hcond
   let ⟨hw,ht⟩:=h
   have XB:Kz (iT ops xs (cS xs 0) xs 0) (me B.w0 lh sl lh.length (iT ops xs (cS xs 0) xs 0)):=λi d hd=>by
    refine⟨λYg=>?_,?_⟩
    ·unfold G8;rw[pZ,hd];have:=List.all_eq_true.1 h5 d (Jq hd);simp[Yg]at this;simp[this,uI]
    ·have:=oV (ds:=iT ops xs (cS xs 0) xs 0) (iT ops xs (cS xs 0) xs 0) 0 (λj=>by simp) hw i d (by simpa using hd);simpa using this
   generalize me B.w0 lh sl lh.length (iT ops xs (cS xs 0) xs 0)=Ws at hw ht XB;refine wpIn_region_any M ?_;have SE:gJ ops (Array.replicate ops.size false):=λk o W=>by simp[Ks]at W;split at W<;>simp at W
   have hany:=nR hS XB N h4 (iT ops xs (cS xs 0) xs 0) 0 _ sl _ (λj=>by simp) h3 SE ht;rw[← h4];have hext:jB lh m (lh++List.replicate (QB (iT ops xs (cS xs 0) xs 0)) .dead) m:=⟨aH.le_refl m,λk W=>⟨by rw[Fp (List.getElem?_eq_some_iff.1 W).1];exact W,rfl⟩⟩;rw[h4]at hany ⊢;exact hkb hF hS hE TS (yt ops xs (cS xs 0) xs 0) hQ _ _ sl _ m a _ ⟨hs.1,hs.2.1,(hs.2.2.deads _).drew _⟩ hext hany
  ·cases hc
end
end Go.Sx
namespace Go.Sx
inductive OT where|done|op (o:jq) (r:OT)|alt (a b:OT)
def qp (w0:World) (QZ:FuncId->b6):OT->List af->List ar->(List af->List ar->Prop)->Prop
 |.done,sl,lh,K=>K sl lh|.op o r,sl,lh,K=>fN w0 QZ [o] sl lh λsl lh=>qp w0 QZ r sl lh K
 |.alt a b,sl,lh,K=>qp w0 QZ a sl lh K/\qp w0 QZ b sl lh K
def rz:lN->Bool
 |.mov _|.fa ..|.len _|.fld ..|.iaS ..|.ext ..=>true|_=>false
def pv (sl:List af):lN->Option af
 |.mov x=>some (arg sl x)
 |.fa off x=>match arg sl x with|.ptr (some p)=>some (.ptr (some (p.add off)))|_=>none
 |.len x=>match arg sl x with|.slice _ n _=>some (.int .i64 n)|_=>none
 |.fld off n x=>match arg sl x with
   |.agg cs=>(match n with|some n=>some (.agg ((cs.drop off).take n))|none=>cs[off]?)
   |_=>none
 |.iaS esz x ix=>match arg sl x,arg sl ix with
   |.slice (some At) n _,.int _ i=>if 0<=i/\i<n then some (.ptr (some (At.add (i.toNat*esz)))) else none
   |_,_=>none
 |.ext x i=>match arg sl x with|.tup vs=>vs[i]?|_=>none
 |_=>none
section
variable {w0:World} {QZ:FuncId->b6} {sl sl':List af} {lh:List ar} {P:Program}
theorem A9 {op:lN} {K:af->List ar->Prop} (h:rz op=true):dv w0 QZ sl lh none K op↔∃ v,pv sl op=some v/\K v lh:=by
 cases op<;>simp only[rz,HH]at h<;>simp only[dv,pv]
 case mov x=>exact⟨λh=>⟨_,rfl,h⟩,λ⟨_,e,h⟩=>by cases e;exact h⟩
 case fa off x=>
  generalize arg sl x=y
  match y with
  |.ptr (some p)=>exact⟨λh=>⟨_,rfl,h⟩,λ⟨_,e,h⟩=>by cases e;exact h⟩|.ptr none|.int ..|.bool _|.str _|.slice ..|.fn ..|.agg _|.tup _|.raw _|.any=>exact⟨λh=>h.elim,λ⟨_,e,_⟩=>by cases e⟩
 case len x=>
  generalize arg sl x=y
  match y with
  |.slice ..=>exact⟨λh=>⟨_,rfl,h⟩,λ⟨_,e,h⟩=>by cases e;exact h⟩|.ptr _|.int ..|.bool _|.str _|.fn ..|.agg _|.tup _|.raw _|.any=>exact⟨λh=>h.elim,λ⟨_,e,_⟩=>by cases e⟩
 case fld off n x=>
  generalize arg sl x=y
  match y,n with
  |.agg cs,some n=>exact⟨λh=>⟨_,rfl,h⟩,λ⟨_,e,h⟩=>by cases e;exact h⟩|.agg cs,none=>exact Iff.rfl|.ptr _,_|.int ..,_|.bool _,_|.str _,_|.slice ..,_|.fn ..,_|.tup _,_|.raw _,_|.any,_=>exact⟨λh=>h.elim,λ⟨_,e,_⟩=>by cases e⟩
 case iaS esz x ix=>
  generalize arg sl x=y;generalize arg sl ix=z
  match y,z with
  |.slice (some At) n _,.int _ i=>
    dsimp only
    constructor
    ·rintro⟨M,N,q',e,h3⟩;cases e;exact⟨_,E5 ⟨M,N⟩,h3⟩
    ·rintro⟨v,e,h3⟩
     split at e
     ·rename_i h;cases e;exact⟨h.1,h.2,At,rfl,h3⟩
     ·cases e
  |.slice none _ _,.int _ _=>exact⟨λ⟨_,_,_,e,_⟩=>(by cases e),λ⟨_,e,_⟩=>(by cases e)⟩|.slice ..,.ptr _|.slice ..,.bool _|.slice ..,.str _|.slice ..,.slice ..|.slice ..,.fn ..|.slice ..,.agg _|.slice ..,.tup _|.slice ..,.raw _|.slice ..,.any=>exact⟨λh=>h.elim,λ⟨_,e,_⟩=>by split at e<;>simp_all⟩|.ptr _,_|.int ..,_|.bool _,_|.str _,_|.agg _,_|.fn ..,_|.tup _,_|.raw _,_|.any,_=>exact⟨λh=>h.elim,λ⟨_,e,_⟩=>by cases e⟩
 case ext x i=>
  generalize arg sl x=y
  match y with
  |.tup vs=>exact Iff.rfl|.ptr _|.int ..|.bool _|.str _|.slice ..|.fn ..|.agg _|.raw _|.any=>exact⟨λh=>h.elim,λ⟨_,e,_⟩=>by cases e⟩
theorem Dn {op:lN} (h:∀ x∈op.args,arg sl x=arg sl' x):pv sl op=pv sl' op:=by
 cases op<;>simp[lN.args,HD,IP,or_false,MU,forall_eq]at h<;>simp[pv]
 all_goals first
  |rw[h]|rw[h.1,h.2]
end
def F9 (g:Nat->Option OT):List Nat->Option OT
 |[]=>some .done|[i]=>g i
 |i::j::l=>match g i,F9 g (j::l) with|some a,some b=>some (.alt a b)|_,_=>none
def fn7 (xs:List jq) (i:Nat):Bool:=match xs[i]? with|some x=>rz x.op|none=>false
def KI (ops:Array Oper) (xs:List jq):Nat->Array Bool->Option OT
 |0,listed=>if(Region.ready .any ops listed).isEmpty then some .done else none
 |f+1,listed=>match (Region.ready .any ops listed).find? (fn7 xs) with
   |some j=>match xs[j]?,KI ops xs f (listed.setIfInBounds j true) with|some x,some t=>some (.op x t)|_,_=>none
   |none=>F9 (λi=>match xs[i]?,KI ops xs f (listed.setIfInBounds i true) with|some x,some t=>some (.op x t)|_,_=>none) (Region.ready .any ops listed)
def pO (ops:Array Oper) (xs:List jq):Bool :=
 (List.range xs.length).all λi=>(List.range xs.length).all λj=>i==j||Gg ops xs.length i j||Gg ops xs.length j i||(match xs[i]?,xs[j]? with
    |some x,some y=>!rz x.op||o3 x y
    |_,_=>false)
def yaB (xs:List jq):Bool:=xs.any λx=>match x.op with
 |.len (.t d)=>xs.any λy=>y.dst==some d&&match y.op with|.call ..=>true|_=>false
 |_=>false
def B7 (P:Program) (BN:List TypeId) (ops:Array Oper):Option OT :=
 match fZ P BN ops ops.toList with
 |none=>none|some xs=>if P.follows .mixedOrders&&(xs.all (λx=>x.guard.isNone)&&(yaB xs&&(pO ops xs&&xs.length==ops.size))) then KI ops xs ops.size (Array.replicate ops.size false) else none
section
variable {P:Program} {QZ:FuncId->b6} {w0:World} {ops:Array Oper} {xs:List jq} {K:List af->List ar->Prop}
def Bh (w0:World) (QZ:FuncId->b6) (ops:Array Oper) (xs:List jq) (K:List af->List ar->Prop):Nat->Array Bool->List af->List ar->Prop
 |0,listed,sl,lh=>Region.ready .any ops listed=[]/\K sl lh
 | fuel+1,listed,sl,lh=>(Region.ready .any ops listed=[]->K sl lh) /\
    ∀i∈Region.ready .any ops listed,∀x,xs[i]? = some x->dv w0 QZ sl lh none (λv l=>Bh w0 QZ ops xs K fuel (listed.setIfInBounds i true) (fv sl x.dst v) l) x.op
theorem hvs {x:gq} {d:Option Nat} {sl:List af} {v:af} (h:∀ t,d=some t->t∉rV [x]):arg (fv sl d v) x=arg sl x:=by
 cases x with
 |k a=>rfl
 |t i=>simp[arg];exact hmN λe=>h i e (by simp[rV])
theorem pT {x:jq} {d:Option Nat} {sl:List af} {v:af} (h:∀ t,d=some t->t∉x.reads):∀ y∈x.op.args,arg (fv sl d v) y=arg sl y:=λy hy=>hvs λt ht hm=>h t ht (by
 cases y with
 |k a=>simp[rV]at hm
 |t i=>simp[rV]at hm;subst hm;exact Kv _ (List.mem_filterMap.2 ⟨_,hy,rfl⟩))
theorem how (hS:∀ f,(QZ f).Ok P f) (hp:pO ops xs=true) (hlen:xs.length=ops.size) {i:Nat} {x:jq} (hx:xs[i]? = some x) (W0:rz x.op=true):∀ (fuel:Nat) (listed:Array Bool) (sl:List af) (lh:List ar),gJ ops listed->i∈Region.ready .any ops listed ->
 dv w0 QZ sl lh none (λv l=>Bh w0 QZ ops xs K fuel (listed.setIfInBounds i true) (fv sl x.dst v) l) x.op->Bh w0 QZ ops xs K (fuel+1) listed sl lh:=by
 have good:∀ (listed:Array Bool) (j:Nat) (y:jq),gJ ops listed->i∈Region.ready .any ops listed->j∈Region.ready .any ops listed->j≠i->xs[j]? = some y->o3 x y=true:=λlisted j y hc hi hj SQ hy=>by
  let ⟨ui,oi,U9,ai⟩:=mem_ready.1 hi
  let ⟨uj,oj,VR,aj⟩:=mem_ready.1 hj
  have li:i<xs.length:=by rw[hlen];exact(Array.getElem?_eq_some_iff.1 U9).1
  have lj:j<xs.length:=by rw[hlen];exact(Array.getElem?_eq_some_iff.1 VR).1
  simp[pO,JF,List.mem_range]at hp;have:=hp i li j lj;simp[II,HX,hx,hy,W0]at this;have no:∀ {x:Nat},listed.getD x true=false->listed.getD x false=true->False:=λ{x} M N=>by
   rcases Hl x listed.size with h|h
   ·simp[h]at M N;rw[M]at N;cases N
   ·simp[MX h]at M
  rcases this with ((h|h)|h)|h
  ·exact(SQ h.symm).elim
  ·exact(no uj (fX hc _ i oi U9 ai h)).elim
  ·exact(no ui (fX hc _ j oj VR aj h)).elim
  ·simpa using h
 intro fuel;induction fuel with
 |zero=>
   intro listed sl lh hc hi Qa;refine⟨λh=>(by rw[h]at hi;cases hi),λj hj y hy=>?_⟩;by_cases Sl:j=i
   ·subst Sl;rw[hx]at hy;cases hy;exact Qa
   ·exfalso
    have hr:=ready_mono hj Sl
    let ⟨v,_,Qa⟩:=(A9 W0).1 Qa
    have hnil:=Qa.1;rw[hnil]at hr;cases hr
 |succ fuel ih=>
   intro listed sl lh hc hi Qa;refine⟨λh=>(by rw[h]at hi;cases hi),λj hj y hy=>?_⟩;by_cases Sl:j=i
   ·subst Sl;rw[hx]at hy;cases hy;exact Qa
   ·let ⟨v,U,Qa⟩:=(A9 W0).1 Qa
    let ⟨a1,a2,a3⟩:=pn (good listed j y hc hi hj Sl hy)
    have M:=Qa.2 j (ready_mono hj Sl) y hy;rw[pK (sl':=sl) (pT (λt ht=>a1 t ht))]at M;refine dO hS (λu l h=>?_) M;refine ih _ _ l (ga hc hj) (ready_mono hi (Ne.symm Sl)) ?_;rw[A9 W0];refine⟨v,?_,?_⟩
    ·rw[Dn (sl':=sl) (pT (λt ht=>a3 t ht))];exact U
    ·rw[Ol _ _ Sl,tJ (d:=y.dst) (d':=x.dst) (λk W SP=>a2 k SP W)];exact h
theorem yO {g:Nat->Option OT} {sl:List af} {lh:List ar}:∀ {l:List Nat} {t:OT},F9 g l=some t->qp w0 QZ t sl lh K->∀ i∈l,∃ u,g i=some u/\qp w0 QZ u sl lh K
 |[],_,_,_,i,hi=>by cases hi
 |[j],t,h,U,i,hi=>by simp at hi;subst hi;exact⟨t,h,U⟩
 |j::k::l,t,h,U,i,hi=>by
   simp[F9]at h;split at h
   ·rename_i a b ha hb
    cases h;rcases List.mem_cons.1 hi with rfl|hi
    ·exact⟨a,ha,U.1⟩
    ·exact yO hb U.2 i hi
   ·cases h
theorem Cq (hS:∀ f,(QZ f).Ok P f) (hp:pO ops xs=true) (hg:xs.all (λx=>x.guard.isNone)=true) (hlen:xs.length=ops.size):∀ (fuel:Nat) (listed:Array Bool) (sl:List af) (lh:List ar) (t:OT),gJ ops listed->KI ops xs fuel listed=some t->qp w0 QZ t sl lh K->Bh w0 QZ ops xs K fuel listed sl lh
 |0,listed,sl,lh,t,hc,ht,U=>by
   simp only[KI]at ht;split at ht
   ·rename_i he;cases ht;exact⟨by simpa using he,U⟩
   ·cases ht
 |fuel+1,listed,sl,lh,t,hc,ht,U=>by
   have one:∀ (x:jq) (j:Nat),xs[j]? = some x->∀ {K:List af->List ar->Prop},fN w0 QZ [x] sl lh K->dv w0 QZ sl lh none (λv l=>K (fv sl x.dst v) l) x.op:=λx j hx K h=>by
    have Ya:x.guard=none:=by have:=List.all_eq_true.1 hg x (Jq hx);simpa using this
    simp[fN,Ya]at h;exact h
   simp[KI]at ht;split at ht
   ·rename_i j hj
    split at ht
    ·rename_i x u hx hu
     cases ht;have Yb:=List.mem_of_find?_eq_some hj;have so:rz x.op=true:=by have:=List.find?_some hj;simpa[fn7,hx] using this
     refine how hS hp hlen hx so fuel listed sl lh hc Yb ?_;exact dO hS (λv l h=>Cq hS hp hg hlen fuel _ _ l u (ga hc Yb) hu h) (one x j hx U)
    ·cases ht
   ·rename_i hnone
    refine⟨λhr=>?_,λi hi x hx=>?_⟩
    ·rw[hr]at ht;simp[F9,Et]at ht;subst ht;exact U
    ·let ⟨u,hu,vd⟩:=yO ht U i hi
     rw[hx]at hu;split at hu
     ·rename_i x' r e1 hr;cases e1;cases hu;exact dO hS (λv l h=>Cq hS hp hg hlen fuel _ _ l r (ga hc hi) hr h) (one x i hx vd)
     ·cases hu
end
section
variable {P:Program} {QZ:FuncId->b6} {BN:List TypeId} {B:dB} {F:Fence} {n:Nat} {ops:Array Oper}
theorem rD (hF:lk F) (hS:∀ f,(QZ f).Ok P f) (hE:∀ t∈BN,dw P t) {xs:List jq} (hc:fZ P BN ops ops.toList=some xs) (hg:xs.all (λx=>x.guard.isNone)=true)
 {K:List af->List ar->Prop} {Qe:Exit->Act->World->Prop} {lh0:List ar} {m0:aH} (hQ:∀sl' lh' m' a' w',kd B m' sl' lh' a' w'->jB lh0 m0 lh' m'->K sl' lh'->Qe .normal a' w') :
 ∀(fuel:Nat) (listed:Array Bool) (sl:List af) (lh:List ar) (m:aH) (a:Act) (w:World),kd B m sl lh a w->jB lh0 m0 lh m->Bh B.w0 QZ ops xs K fuel listed sl lh->wpAnyIn F n P .any ops Qe fuel listed a w
 |0,_,_,_,_,_,_,hs,he,h=>⟨h.1,hQ _ _ _ _ _ hs he h.2⟩
 |fuel+1,listed,sl,lh,m,a,w,hs,he,h=>by
   have hSS:∀f,(QZ f).Sound P f:=λf=>(hS f).sound;refine⟨λhr=>hQ _ _ _ _ _ hs he (h.1 hr),λi hi=>?_⟩
   let ⟨_,o,ho,_⟩:=mem_ready.1 hi
   let ⟨x,hx,V8⟩:=lY ops.toList xs i o hc (by simpa using ho)
   have N:=h.2 i hi x hx;have Ya:x.guard=none:=by have:=List.all_eq_true.1 hg x (Jq hx);simpa using this
   unfold wpOpIn;simp[ho];unfold lG at V8;split at V8
   ·rename_i j hj iu12;cases V8;rw[E5 (by simp[Region.wanted,iu12])];refine jN hF hj (pR hSS hE hj hs.1 hs.2.2 N) λv w' ⟨r,m',lh',h3,h4,h5,h6⟩=>?_;exact rD hF hS hE hc hg hQ fuel _ _ _ m' _ _ (hs.put h4.1 h5 o.dst h3) (he.trans h4) h6
   ·split at V8
    ·cases V8;cases Ya
    ·cases V8
   ·cases V8
theorem hoc (hF:lk F) (hS:∀ f,(QZ f).Ok P f) (hE:∀ t∈BN,dw P t) {id:Nat} {t:OT} (hc:B7 P BN ops=some t) {K:List af->List ar->Prop} {Qe:Exit->Act->World->Prop} {sl:List af} {lh:List ar} {m:aH} {a:Act} {w:World}
 (hs:kd B m sl lh a w) (h:qp B.w0 QZ t sl lh K) (hQ:∀sl' lh' m' a' w',kd B m' sl' lh' a' w'->jB lh m lh' m'->K sl' lh'->Qe .normal a' w'):(Code.region id ops true).wpIn F n P Qe a w:=by
 unfold B7 at hc;split at hc
 ·cases hc
 ·rename_i xs TS
  split at hc
  ·rename_i hcond
   simp only[Eg,HX]at hcond
   let ⟨M,N,_,h4,h5⟩:=hcond
   refine wpIn_region_any M ?_;have SE:gJ ops (Array.replicate ops.size false):=λk o W=>by simp[Ks]at W;split at W<;>simp at W
   have hall:=Cq hS h4 N h5 ops.size _ sl lh t SE hc h;exact rD hF hS hE TS N hQ _ _ sl lh m a _ ⟨hs.1,hs.2.1,hs.2.2.drew _⟩ (jB.refl _ _) hall
  ·cases hc
end
end Go.Sx
namespace Go.Sx
def yS (QZ:FuncId->b6):FuncId->b6:=λf w0 args lh K=>QZ f w0 args lh λv l=>(∃t,l=lh++t)/\K v l
theorem rx {P:Program} {QZ:FuncId->b6} (hS:∀ f,(QZ f).Ok P f):∀ f,(yS QZ f).Ok P f:=λf=>
 ⟨λB m lh w args vs K M N h3=>(hS f).sound B m lh w args vs K M N ((hS f).mono _ _ _ _ _ (λ_ _ h=>h.2) h3),
  λw0 args lh K K' W h=>(hS f).mono _ _ _ _ _ (λr l h=>⟨h.1,W _ _ h.2⟩) h,
  λw0 args lh Qe h=>(hS f).strict _ _ _ _ ((hS f).mono _ _ _ _ _ (λ_ _ h=>h.2) h)⟩
def RV:lN->Bool
 |.st ..|.app ..|.clr ..|.bsl ..=>false|_=>true
def Wt:lN->Bool
 |.ld _|.lds ..=>true|_=>false
def N4 (op:lN):Bool:=Wt op||rz op
def pm (w0:World) (lh:List ar) (sl:List af):lN->Option af
 |.ld x=>match arg sl x with|.ptr (some p)=>ld w0 lh p|_=>none
 |.lds n x=>match arg sl x with|.ptr (some p)=>(lds w0 lh p n).map .agg|_=>none
 |op=>pv sl op
section
variable {w0:World} {QZ:FuncId->b6} {sl sl':List af} {lh:List ar} {P:Program}
theorem F7 {op:lN} {K:af->List ar->Prop} (h:N4 op=true):dv w0 QZ sl lh none K op↔∃ v,pm w0 lh sl op=some v/\K v lh:=by
 cases op
 case ld x=>
  simp[dv,pm];generalize arg sl x=y
  match y with
  |.ptr (some p)=>exact Iff.rfl|.ptr none|.int ..|.bool _|.str _|.slice ..|.fn ..|.agg _|.tup _|.raw _|.any=>exact⟨λh=>h.elim,λ⟨_,e,_⟩=>by cases e⟩
 case lds n x=>
  simp[dv,pm];generalize arg sl x=y
  match y with
  |.ptr (some p)=>
    constructor
    ·rintro⟨cs,e,h⟩;exact⟨_,by show Option.map af.agg (lds w0 lh p n)=_;rw[e];rfl,h⟩
    ·rintro⟨v,e,h⟩
     dsimp only at e;cases hl:lds w0 lh p n with
     |none=>rw[hl]at e;cases e|some cs=>rw[hl]at e;cases e;exact⟨cs,hl,h⟩
  |.ptr none|.int ..|.bool _|.str _|.slice ..|.fn ..|.agg _|.tup _|.raw _|.any=>exact⟨λh=>h.elim,λ⟨_,e,_⟩=>by cases e⟩
 all_goals first
  |(cases h;done)|exact A9 (QZ:=QZ) h
theorem hst {op:lN} (h:∀ x∈op.args,arg sl x=arg sl' x):pm w0 lh sl op=pm w0 lh sl' op:=by
 cases op
 case ld x=>simp[lN.args,HD,IP,or_false,forall_eq]at h;simp[pm];rw[h]
 case lds n x=>simp[lN.args,HD,IP,or_false,forall_eq]at h;simp[pm];rw[h]
 all_goals exact Dn h
theorem rdC {op:lN} {l:List ar} (h:Wt op=false):pm w0 l sl op=pm w0 lh sl op:=by cases op<;>first|rfl|cases h
theorem Db {t:List ar} {k:Nat} {o:ar} (h:lh[k]? = some o):(lh++t)[k]? = some o:=by rw[Fp (List.getElem?_eq_some_iff.1 h).1];exact h
theorem ie7 {t:List ar} {p:jp} {v:af} (h:ld w0 lh p=some v):ld w0 (lh++t) p=some v:=by
 cases p with
 |l k off=>
   simp[ld]at h ⊢;split at h
   ·rename_i cs ty W;rw[Db W];exact h
   ·cases h
 |g a=>exact h
theorem ic8 {t:List ar} {p:jp} {n:Nat} {v:List af} (h:lds w0 lh p n=some v):lds w0 (lh++t) p n=some v:=by
 cases p with
 |l k off=>
   simp[lds]at h ⊢;split at h
   ·rename_i cs ty W;rw[Db W];exact h
   ·cases h
 |g a=>exact h
theorem smC {op:lN} {t:List ar} {v:af} (h:pm w0 lh sl op=some v):pm w0 (lh++t) sl op=some v:=by
 cases op
 case ld x=>
  simp[pm]at h ⊢;split at h
  ·exact ie7 h
  ·cases h
 case lds n x=>
  simp[pm]at h ⊢;split at h
  ·rename_i p _
   cases hl:lds w0 lh p n with
   |none=>rw[hl]at h;cases h|some cs=>rw[hl]at h;rw[ic8 hl];exact h
  ·cases h
 all_goals exact h
theorem hzv (hS:∀ f,(QZ f).Ok P f) {op:lN} {K:af->List ar->Prop} (hg:RV op=true) (h:dv w0 (yS QZ) sl lh none K op):dv w0 (yS QZ) sl lh none (λv l=>(∃ t,l=lh++t)/\K v l) op:=by
 have hP:=rx hS;have h0:∃t,lh=lh++t:=⟨[],av⟩;have at0:∀{op:lN},(∀K:af->List ar->Prop,dv w0 (yS QZ) sl lh none K op=dv w0 (yS QZ) sl lh none (λv _=>K v lh) op)->dv w0 (yS QZ) sl lh none K op->dv w0 (yS QZ) sl lh none (λv l=>(∃t,l=lh++t)/\K v l) op:=λe h=>by rw[e]at h ⊢;exact dO hP (λv l W=>⟨h0,W⟩) h
 cases op
 case new ty z=>exact⟨⟨_,rfl⟩,h⟩
 case box ty x=>exact⟨h.1,⟨_,rfl⟩,h.2⟩
 case mks ty n cs=>exact⟨⟨_,rfl⟩,h⟩
 case call f xs=>simp only[dv,yS]at h ⊢;exact(hS f).mono _ _ _ _ _ (λv l W=>⟨W.1,W⟩) h
 case callv x xs=>
  simp only[dv,yS]at h ⊢;split at h
  ·exact(hS _).mono _ _ _ _ _ (λv l W=>⟨W.1,W⟩) h
  ·exact h.elim
 all_goals first
  |(cases hg;done)|exact at0 (λK=>rfl) h
end
def ai6 (xs:List jq) (i:Nat):Bool:=match xs[i]? with|some x=>N4 x.op|none=>false
def Lx (ops:Array Oper) (xs:List jq):Nat->Array Bool->Option OT
 |0,listed=>if(Region.ready .any ops listed).isEmpty then some .done else none
 |f+1,listed=>match (Region.ready .any ops listed).find? (ai6 xs) with
   |some j=>match xs[j]?,Lx ops xs f (listed.setIfInBounds j true) with|some x,some t=>some (.op x t)|_,_=>none
   |none=>F9 (λi=>match xs[i]?,Lx ops xs f (listed.setIfInBounds i true) with|some x,some t=>some (.op x t)|_,_=>none) (Region.ready .any ops listed)
def wb (ops:Array Oper) (xs:List jq):Bool :=
 (List.range xs.length).all λi=>(List.range xs.length).all λj=>i==j||Gg ops xs.length i j||Gg ops xs.length j i||(match xs[i]?,xs[j]? with
    |some x,some y=>!N4 x.op||(o3 x y&&(!Wt x.op||RV y.op))
    |_,_=>false)
def hpm (P:Program) (f:FuncId):Bool:=match P.funcs[f]? with
 |some fn=>fn.resultTypes.toList.any λt=>match q8 P t with
   |some z=>z.toList.any λv=>match v with|.slice ..=>true|_=>false
   |none=>false
 |none=>false
def hxs (P:Program) (xs:List jq):Bool:=xs.any λx=>match x.op with
 |.call f _=>hpm P f
 |.agg z ps=>ps.any λp=>(match z[p.1]? with
   |some (.slice none 0 0)=>true
   |_=>false)&&match p.2.2 with
     |.t d=>xs.any λy=>y.dst==some d&&match y.op with|.callv ..=>true|_=>false
     |_=>false
 |_=>false
def tH (P:Program) (BN:List TypeId) (ops:Array Oper):Option OT :=
 match fZ P BN ops ops.toList with
 |none=>none|some xs=>if P.follows .mixedOrders&&(xs.all (λx=>x.guard.isNone)&&(hxs P xs&&(wb ops xs&&xs.length==ops.size))) then Lx ops xs ops.size (Array.replicate ops.size false) else none
section
variable {P:Program} {QZ:FuncId->b6} {w0:World} {ops:Array Oper} {xs:List jq} {K:List af->List ar->Prop}
theorem i21 (hS:∀ f,(QZ f).Ok P f) (hp:wb ops xs=true) (hlen:xs.length=ops.size) {i:Nat} {x:jq} (hx:xs[i]? = some x) (W0:N4 x.op=true):∀ (fuel:Nat) (listed:Array Bool) (sl:List af) (lh:List ar),gJ ops listed->i∈Region.ready .any ops listed ->
 dv w0 (yS QZ) sl lh none (λv l=>Bh w0 (yS QZ) ops xs K fuel (listed.setIfInBounds i true) (fv sl x.dst v) l) x.op->Bh w0 (yS QZ) ops xs K (fuel+1) listed sl lh:=by
 have hP:=rx hS;have good:∀ (listed:Array Bool) (j:Nat) (y:jq),gJ ops listed->i∈Region.ready .any ops listed->j∈Region.ready .any ops listed->j≠i->xs[j]? = some y->o3 x y=true/\(Wt x.op=false∨RV y.op=true):=λlisted j y hc hi hj SQ hy=>by
  let ⟨ui,oi,U9,ai⟩:=mem_ready.1 hi
  let ⟨uj,oj,VR,aj⟩:=mem_ready.1 hj
  have li:i<xs.length:=by rw[hlen];exact(Array.getElem?_eq_some_iff.1 U9).1
  have lj:j<xs.length:=by rw[hlen];exact(Array.getElem?_eq_some_iff.1 VR).1
  simp[wb,JF,List.mem_range]at hp;have:=hp i li j lj;simp only[II,HX,hx,hy,W0]at this;have no:∀ {x:Nat},listed.getD x true=false->listed.getD x false=true->False:=λ{x} M N=>by
   rcases Hl x listed.size with h|h
   ·simp[h]at M N;rw[M]at N;cases N
   ·simp[MX h]at M
  rcases this with ((h|h)|h)|h
  ·exact(SQ h.symm).elim
  ·exact(no uj (fX hc _ i oi U9 ai h)).elim
  ·exact(no ui (fX hc _ j oj VR aj h)).elim
  ·simp only[IA,Eg,II,Hu,HH,false_or]at h;exact h
 intro fuel;induction fuel with
 |zero=>
   intro listed sl lh hc hi Qa;refine⟨λh=>(by rw[h]at hi;cases hi),λj hj y hy=>?_⟩;by_cases Sl:j=i
   ·subst Sl;rw[hx]at hy;cases hy;exact Qa
   ·exfalso
    have hr:=ready_mono hj Sl
    let ⟨v,_,Qa⟩:=(F7 W0).1 Qa
    have hnil:=Qa.1;rw[hnil]at hr;cases hr
 |succ fuel ih=>
   intro listed sl lh hc hi Qa;refine⟨λh=>(by rw[h]at hi;cases hi),λj hj y hy=>?_⟩;by_cases Sl:j=i
   ·subst Sl;rw[hx]at hy;cases hy;exact Qa
   ·let ⟨v,U,Qa⟩:=(F7 W0).1 Qa
    let ⟨rO,VP⟩:=good listed j y hc hi hj Sl hy
    let ⟨a1,a2,a3⟩:=pn rO
    have M:=Qa.2 j (ready_mono hj Sl) y hy;rw[pK (sl':=sl) (pT (λt ht=>a1 t ht))]at M;have N:dv w0 (yS QZ) sl lh none (λu l=>pm w0 l sl x.op=some v/\Bh w0 (yS QZ) ops xs K fuel ((listed.setIfInBounds i true).setIfInBounds j true) (fv (fv sl x.dst v) y.dst u) l) y.op:=by
     rcases VP with VP|VP
     ·exact dO hP (λu l h=>⟨(rdC VP).trans U,h⟩) M
     ·exact dO hP (λu l h=>⟨by obtain⟨⟨t,rfl⟩,_⟩:=h;exact smC U,h.2⟩) (hzv hS VP M)
    refine dO hP (λu l h=>?_) N;refine ih _ _ l (ga hc hj) (ready_mono hi (Ne.symm Sl)) ?_;rw[F7 W0];refine⟨v,?_,?_⟩
    ·rw[hst (sl':=sl) (pT (λt ht=>a3 t ht))];exact h.1
    ·rw[Ol _ _ Sl,tJ (d:=y.dst) (d':=x.dst) (λk W SP=>a2 k SP W)];exact h.2
theorem Pr (hS:∀ f,(QZ f).Ok P f) (hp:wb ops xs=true) (hg:xs.all (λx=>x.guard.isNone)=true) (hlen:xs.length=ops.size):∀ (fuel:Nat) (listed:Array Bool) (sl:List af) (lh:List ar) (t:OT),gJ ops listed->Lx ops xs fuel listed=some t->qp w0 (yS QZ) t sl lh K->Bh w0 (yS QZ) ops xs K fuel listed sl lh
 |0,listed,sl,lh,t,hc,ht,U=>by
   simp only[Lx]at ht;split at ht
   ·rename_i he;cases ht;exact⟨by simpa using he,U⟩
   ·cases ht
 |fuel+1,listed,sl,lh,t,hc,ht,U=>by
   have hP:=rx hS;have one:∀ (x:jq) (j:Nat),xs[j]? = some x->∀ {K:List af->List ar->Prop},fN w0 (yS QZ) [x] sl lh K->dv w0 (yS QZ) sl lh none (λv l=>K (fv sl x.dst v) l) x.op:=λx j hx K h=>by
    have Ya:x.guard=none:=by have:=List.all_eq_true.1 hg x (Jq hx);simpa using this
    simp[fN,Ya]at h;exact h
   simp[Lx]at ht;split at ht
   ·rename_i j hj
    split at ht
    ·rename_i x u hx hu
     cases ht;have Yb:=List.mem_of_find?_eq_some hj;have so:N4 x.op=true:=by have:=List.find?_some hj;simpa[ai6,hx] using this
     refine i21 hS hp hlen hx so fuel listed sl lh hc Yb ?_;exact dO hP (λv l h=>Pr hS hp hg hlen fuel _ _ l u (ga hc Yb) hu h) (one x j hx U)
    ·cases ht
   ·rename_i hnone
    refine⟨λhr=>?_,λi hi x hx=>?_⟩
    ·rw[hr]at ht;simp[F9,Et]at ht;subst ht;exact U
    ·let ⟨u,hu,vd⟩:=yO ht U i hi
     rw[hx]at hu;split at hu
     ·rename_i x' r e1 hr;cases e1;cases hu;exact dO hP (λv l h=>Pr hS hp hg hlen fuel _ _ l r (ga hc hi) hr h) (one x i hx vd)
     ·cases hu
end
section
variable {P:Program} {QZ:FuncId->b6} {BN:List TypeId} {B:dB} {F:Fence} {n:Nat} {ops:Array Oper}
theorem hop (hF:lk F) (hS:∀ f,(QZ f).Ok P f) (hE:∀ t∈BN,dw P t) {id:Nat} {t:OT} (hc:tH P BN ops=some t) {K:List af->List ar->Prop} {Qe:Exit->Act->World->Prop} {sl:List af} {lh:List ar} {m:aH} {a:Act} {w:World}
 (hs:kd B m sl lh a w) (h:qp B.w0 (yS QZ) t sl lh K) (hQ:∀sl' lh' m' a' w',kd B m' sl' lh' a' w'->jB lh m lh' m'->K sl' lh'->Qe .normal a' w'):(Code.region id ops true).wpIn F n P Qe a w:=by
 unfold tH at hc;split at hc
 ·cases hc
 ·rename_i xs TS
  split at hc
  ·rename_i hcond
   simp only[Eg,HX]at hcond
   let ⟨M,N,_,h4,h5⟩:=hcond
   refine wpIn_region_any M ?_;have SE:gJ ops (Array.replicate ops.size false):=λk o W=>by simp[Ks]at W;split at W<;>simp at W
   have hall:=Pr hS h4 N h5 ops.size _ sl lh t SE hc h;exact rD hF (rx hS) hE TS N hQ _ _ sl lh m a _ ⟨hs.1,hs.2.1,hs.2.2.drew _⟩ (jB.refl _ _) hall
  ·cases hc
end
end Go.Sx
