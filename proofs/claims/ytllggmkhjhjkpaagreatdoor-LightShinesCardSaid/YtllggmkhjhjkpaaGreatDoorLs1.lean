/- Part 1 of a proof. No conditions. -/
import Derived.CallsIn
import Derived.Laws.Entries
import Derived.OrdersIn
set_option maxRecDepth 100000
set_option linter.unusedVariables false
set_option linter.unusedSimpArgs false
theorem I {p:Prop} (h:p:=by omega):p:=h
theorem aD {p:Prop} (h:p:=by simp):p:=h
theorem aA {p:Prop} (h:p:=by decide):p:=h
theorem aF {p:Prop} (h:p:=by assumption):p:=h
abbrev DD:=@Bool.and_eq_true
abbrev H9:=@Int.mul_le_mul_of_nonneg_right
abbrev G9:=@Nat.eq_of_beq_eq_true
abbrev HG:=@Option.map_eq_some_iff
abbrev H2:=@Option.some.injEq
abbrev HS:=@Nat.le_of_ble_eq_true
abbrev Ht:=@List.getElem?_append_left
abbrev HM:=@List.getElem?_set
abbrev Dm:=@Nat.le_refl
abbrev HT:=@of_decide_eq_true
abbrev Ck:=@if_neg
abbrev Hw:=@Nat.mul_le_mul_right
abbrev IP:=@List.getElem?_eq_none
abbrev Hk:=@Int.toNat_natCast
abbrev JF:=@Int.le_of_mul_le_mul_right
abbrev Hv:=@of_decide_eq_false
abbrev H7:=@Int.le_refl
abbrev Hc:=@List.cons.injEq
abbrev HE:=@Int.le_trans
abbrev DL:=@if_pos
abbrev Hr:=@Option.map_some
abbrev IJ:=@decide_eq_true_eq
abbrev KM:=@List.getElem?_append_right
abbrev Jv:=@List.getElem?_cons_succ
abbrev JS:=@List.getElem?_append
abbrev KO:=@List.getElem?_eq_getElem
abbrev JN:=@Bool.false_eq_true
abbrev Hs:=@Nat.succ_mul
abbrev Ib:=@List.all_cons
abbrev Ho:=@Nat.zero_le
abbrev KW:=@Nat.ble_eq_true_of_le
abbrev Ji:=@List.getElem?_take
abbrev MI:=@Int.tdiv_eq_ediv_of_nonneg
abbrev Ic:=@Nat.zero_add
abbrev HJ:=@true_and
abbrev MM:=@List.getElem?_cons_zero
abbrev Kk:=@List.ext_getElem?
abbrev LI:=@Nat.lt_of_lt_of_le
abbrev LU:=@List.getElem?_drop
abbrev LW:=@Bool.not_eq_true'
abbrev Li:=@List.mem_cons_self
abbrev Ja:=@List.map_cons
abbrev Jc:=@Nat.le_trans
abbrev P2:=@Int.mul_le_mul_of_nonpos_left
abbrev IG:=@if_false
abbrev Ln:=@Nat.not_lt_zero
abbrev Md:=@List.length_append
abbrev Mw:=@List.mem_cons_of_mem
abbrev MN:=@List.length_cons
abbrev MW:=@Array.toList_inj
abbrev P1:=@Int.lt_of_mul_lt_mul_right
abbrev L8:=@List.mem_cons
abbrev MX:=@Bool.or_eq_true
abbrev Mb:=@Array.toList_map
abbrev Nt:=@Int.le_of_lt_add_one
abbrev Ma:=@List.drop_drop
abbrev Ki:=@Nat.add_mul
abbrev O2:=@List.replicate_succ
abbrev K8:=@beq_iff_eq
abbrev Mx:=@List.not_mem_nil
abbrev Jh:=@eq_of_beq
abbrev M3:=@Nat.lt_or_ge
abbrev M1:=@Nat.add_zero
abbrev Mi:=@List.take_take
abbrev Py:=@Array.getElem?_replicate
abbrev J6:=@if_true
abbrev Mq:=@Bool.not_true
abbrev P3:=@Array.length_toList
abbrev P5:=@Array.getElem?_push
abbrev Qh:=@List.take_append_of_le_length
abbrev O5:=@List.range'_succ
abbrev Qi:=@List.drop_append_of_le_length
abbrev OC:=@List.all_eq_true
abbrev N2:=@Nat.mul_le_mul
abbrev Q4:=@List.take_of_length_le
abbrev P7:=@Int.emod_lt_of_pos
abbrev Q1:=@List.getElem?_toArray
abbrev Q2:=@Int.mul_ediv_add_emod
abbrev N1:=@Nat.add_assoc
abbrev Q3:=@List.mem_of_getElem?
abbrev QB:=@List.mem_append_left
abbrev QD:=@List.getElem?_mapIdx
abbrev Qs:=@Array.getElem?_eq_getElem
abbrev K9:=@and_true
abbrev PG:=@List.length_drop
abbrev PH:=@List.cons_append
abbrev PI:=@Bool.cond_eq_ite
abbrev NE:=@Int.sub_self
abbrev NI:=@Int.mul_zero
abbrev NR:=@Bool.not_not
abbrev PL:=@Option.map_none
abbrev PO:=@Nat.min_eq_left
abbrev PQ:=@Int.emod_nonneg
abbrev PT:=@Int.ediv_nonneg
abbrev Qt:=@Array.getElem?_eq_none
abbrev QE:=@not_true_eq_false
abbrev QF:=@List.flatten_cons
abbrev QG:=@List.append_assoc
abbrev PU:=@List.mapM_cons
abbrev P9:=@List.drop_take
abbrev PC:=@Bool.not_false
abbrev OH:=@Nat.ne_of_lt
abbrev OK:=@Nat.beq_refl
abbrev Qk:=@List.take_append_drop
abbrev OO:=@List.map_nil
abbrev Q5:=@Option.getD_some
abbrev Ql:=@List.range_eq_range'
abbrev MA:=@and_self
abbrev Qm:=@beq_eq_false_iff_ne
abbrev Q6:=@List.mem_append
abbrev Qn:=@List.map_congr_left
abbrev Q7:=@List.append_nil
abbrev Q8:=@Bool.eq_iff_iff
abbrev Qo:=@Array.toList_append
abbrev S4:=@Array.getD_eq_getD_getElem?
abbrev S5:=@List.getD_eq_getElem?_getD
abbrev S6:=@Array.toList_setIfInBounds
abbrev PD:=@Nat.add_comm
abbrev Qp:=@Int.natCast_nonneg
abbrev PF:=@Int.le_total
abbrev S7:=@Array.setIfInBounds_comm
abbrev Q9:=@Bool.and_self
abbrev Qq:=@forall_eq_or_imp
abbrev Qr:=@List.length_take
namespace Go.Sx
inductive hU where|l (k off:Nat)|g (a:Addr)
inductive ah where|int (k:IntKind) (n:Int)|bool (b:Bool)|str (s:ByteArray)|ptr (p:Option hU)|slice (p:Option hU) (len cap:Nat)|fn (f:Fn) (first caps:List ah)|agg (cs:List ah)|tup (vs:List ah)|raw (v:Value)|any
inductive av where|dead|hid|cells (cs:List ah) (ty:TypeId)
abbrev aJ:=Nat->Option Nat
def dR (m:aJ):Option hU->Option Addr->Prop
 |none,X1=>X1=none|some (.g a),X1=>X1=some a|some (.l k off),X1=>∃b,m k=some b/\X1=some ⟨b,off,none⟩
mutual
def CL (m:aJ):ah->Value->Prop
 |.int k n,v=>v=.int k n|.bool b,v=>v=.bool b|.str s,v=>v=.string s|.ptr p,v=>∃X1,v=.pointer X1/\dR m p X1|.slice p n c,v=>∃X1,v=.slice X1 n c/\dR m p X1|.fn f xs ys,v=>∃us vs,v=.func f us vs/\aC m xs us.toList/\aC m ys vs.toList|.agg cs,v=>∃vs,v=.agg vs/\aC m cs vs.toList|.tup cs,v=>∃vs,v=.tuple vs/\aC m cs vs.toList|.raw u,v=>v=u|.any,_=>True
def aC (m:aJ):List ah->List Value->Prop
 |[],vs=>vs=[]|x::xs,vs=>∃u us,vs=u::us/\CL m x u/\aC m xs us
end
def aJ.le (m m':aJ):Prop:=∀k b,m k=some b->m' k=some b
theorem aJ.le_refl (m:aJ):m.le m:=λ_ _ h=>h
theorem aJ.le_trans {a b c:aJ} (h:a.le b) (k:b.le c):a.le c:=λi x hx=>k i x (h i x hx)
theorem adH {m m':aJ} (h:m.le m'):∀ {p X1},dR m p X1->dR m' p X1
 |none,_,hp=>hp|some (.g _),_,hp=>hp|some (.l _ _),_,⟨b,hb,hq⟩=>⟨b,h _ _ hb,hq⟩
mutual
theorem af5 {m m':aJ} (h:m.le m'):∀ (a:ah) (v:Value),CL m a v->CL m' a v
 |.int ..,_,y=>by simp[CL]at y ⊢;exact y
 |.bool ..,_,y=>by simp[CL]at y ⊢;exact y
 |.str ..,_,y=>by simp[CL]at y ⊢;exact y
 |.ptr ..,_,y=>by simp[CL]at y ⊢;let ⟨X1,N,Q⟩:=y;exact⟨X1,N,adH h Q⟩
 |.slice ..,_,y=>by simp[CL]at y ⊢;let ⟨X1,N,Q⟩:=y;exact⟨X1,N,adH h Q⟩
 |.fn _ xs ys,_,y=>by simp[CL]at y ⊢;let ⟨us,vs,N,Q,h3⟩:=y;exact⟨us,vs,N,cH h xs _ Q,cH h ys _ h3⟩
 |.agg cs,_,y=>by simp[CL]at y ⊢;let ⟨vs,N,Q⟩:=y;exact⟨vs,N,cH h cs _ Q⟩
 |.tup cs,_,y=>by simp[CL]at y ⊢;let ⟨vs,N,Q⟩:=y;exact⟨vs,N,cH h cs _ Q⟩
 |.raw _,_,y=>by simp[CL]at y ⊢;exact y
 |.any,_,_=>by simp[CL]
theorem cH {m m':aJ} (h:m.le m'):∀ (az:List ah) (vs:List Value),aC m az vs->aC m' az vs
 |[],_,y=>by simp[aC]at y ⊢;exact y
 |a::az,_,y=>by simp[aC]at y ⊢;let ⟨u,us,N,Q,h3⟩:=y;exact⟨u,us,N,af5 h a u Q,cH h az us h3⟩
end
theorem cB {m:aJ}:∀ {az:List ah} {vs:List Value},aC m az vs->vs.length=az.length
 |[],_,h=>by simp[aC]at h;subst h;rfl
 |_::_,_,h=>by simp[aC]at h;obtain⟨u,us,rfl,_,h3⟩:=h;simp[cB h3]
theorem ir {m:aJ}:∀ {az:List ah} {vs:List Value} (i:Nat) {a:ah},aC m az vs->az[i]? = some a->∃ v,vs[i]? = some v/\CL m a v
 |[],_,_,_,_,h=>by simp at h
 |_::_,_,0,_,hr,h=>by simp[aC]at hr;obtain⟨u,us,rfl,Q,_⟩:=hr;simp at h;subst h;exact⟨u,rfl,Q⟩
 |_::_,_,i+1,_,hr,h=>by
   simp[aC]at hr;obtain⟨u,us,rfl,_,h3⟩:=hr;simp at h
   let ⟨v,y,hr⟩:=ir i h3 h
   exact⟨v,by simpa using y,hr⟩
theorem mj {m:aJ} {az:List ah} {vs:List Value} (h:aC m az vs) (i:Nat) (d:Value):CL m (az.getD i .any) (vs.getD i d):=by
 cases ha:az[i]? with
 |none=>simp[List.getD,ha,CL]
 |some a=>
   let ⟨v,y,hr⟩:=ir i h ha
   simp[List.getD,ha,y,hr]
theorem jH {m:aJ}:∀ {az:List ah} {vs:List Value} (i:Nat) {a:ah} {v:Value},aC m az vs->CL m a v->aC m (az.set i a) (vs.set i v)
 |[],_,_,_,_,h,_=>by simp[aC]at h;subst h;simp[aC]
 |_::_,_,0,_,_,hr,h=>by simp[aC]at hr;obtain⟨u,us,rfl,Q,h3⟩:=hr;simp only[List.set_cons_zero,aC];exact⟨_,_,rfl,h,h3⟩
 |_::_,_,i+1,_,_,hr,h=>by simp[aC]at hr;obtain⟨u,us,rfl,Q,h3⟩:=hr;simp only[List.set_cons_succ,aC];exact⟨_,_,rfl,Q,jH i h3 h⟩
theorem dW {m:aJ}:∀ {az bs:List ah} {us vs:List Value},aC m az us->aC m bs vs->aC m (az++bs) (us++vs)
 |[],_,_,_,h,k=>by simp[aC]at h;subst h;simpa using k
 |_::_,_,_,_,h,k=>by simp[aC]at h;obtain⟨u,us,rfl,Q,h3⟩:=h;simp only[PH,aC];exact⟨_,_,rfl,Q,dW h3 k⟩
theorem fj {m:aJ}:∀ {az:List ah} {vs:List Value} (i:Nat),aC m az vs->aC m (az.take i) (vs.take i)
 |[],_,i,h=>by simp[aC]at h;subst h;simp[aC]
 |_::_,_,0,_=>by simp[aC]
 |_::_,_,i+1,h=>by simp[aC]at h;obtain⟨u,us,rfl,Q,h3⟩:=h;simp only[List.take_succ_cons,aC];exact⟨_,_,rfl,Q,fj i h3⟩
theorem fV {m:aJ}:∀ {az:List ah} {vs:List Value} (i:Nat),aC m az vs->aC m (az.drop i) (vs.drop i)
 |[],_,i,h=>by simp[aC]at h;subst h;simp[aC]
 |_::_,_,0,h=>h
 |_::_,_,i+1,h=>by simp[aC]at h;obtain⟨u,us,rfl,Q,h3⟩:=h;simp[List.drop_succ_cons];exact fV i h3
theorem gh {m:aJ}:∀ (n:Nat) (v:Value),aC m (List.replicate n .any) (List.replicate n v)
 |0,_=>by simp[aC]
 |n+1,v=>by simp only[O2,aC];exact⟨_,_,rfl,by simp[CL],gh n v⟩
def lG:Value->Bool
 |.agg _|.tuple _=>false|_=>true
def ah.cells:ah->List ah
 |.agg cs=>cs|a=>[a]
def ah.one:ah->Bool
 |.agg _|.tup _|.any=>false|.raw v=>lG v|_=>true
def ah.flat:ah->Bool
 |.agg cs=>cs.all ah.one|a=>a.one
theorem Af {m:aJ} {a:ah} {v:Value} (h:CL m a v) (N:a.one=true):lG v=true:=by
 cases a<;>simp[CL]at h
 case int=>subst h;rfl
 case bool=>subst h;rfl
 case str=>subst h;rfl
 case ptr=>obtain⟨X1,rfl,_⟩:=h;rfl
 case slice=>obtain⟨X1,rfl,_⟩:=h;rfl
 case fn=>obtain⟨_,_,rfl,_⟩:=h;rfl
 case raw=>subst h;simpa[ah.one] using N
 all_goals simp[ah.one]at N
theorem smC {v:Value} (h:lG v=true):v.cells=#[v]:=by cases v<;>simp_all [lG,Value.cells]
theorem lQ {m:aJ} {a:ah} {v:Value} (h:CL m a v) (N:a.flat=true):aC m a.cells v.cells.toList/\∀ u∈v.cells.toList,lG u=true:=by
 cases a with
 |agg cs=>
   simp[CL]at h;obtain⟨vs,rfl,Q⟩:=h;refine⟨Q,?_⟩;simp[ah.flat]at N;simp only[Value.cells];generalize vs.toList=l at Q;induction cs generalizing l with
   |nil=>simp only[aC]at Q;subst Q;simp
   |cons c cs ih=>
     simp[aC]at Q;obtain⟨u,us,rfl,h3,h4⟩:=Q;simp[Ib,DD]at N;intro x hx;rcases List.mem_cons.1 hx with rfl|hx
     ·exact Af h3 N.1
     ·exact ih N.2 us h4 x hx
 |_=>have h3:=Af h (by simpa[ah.flat] using N);rw[smC h3];exact⟨by simp only[ah.cells,aC];exact⟨_,_,rfl,h,rfl⟩,by simpa using h3⟩
structure dj where
 w0:World
 wf:World
 own:Nat->Prop
 ds:List Deferred
structure ba (B:dj) (m:aJ) (lh:List av) (w:World):Prop where
 os:w.os=B.wf.os
 tape:w.tape=B.wf.tape
 output:w.output=B.wf.output
 size:B.w0.heap.size<=w.heap.size
 old:∀b,b<B.w0.heap.size->w.heap[b]? = B.w0.heap[b]?
 fsize:B.wf.heap.size<=w.heap.size
 kept:∀b,b<B.wf.heap.size->¬B.own b->w.heap[b]? = B.wf.heap[b]?
 loc:∀k cs ty,lh[k]? = some (.cells cs ty)->∃b vs,m k=some b/\aC m cs vs.toList/\w.heap[b]? = some (.cells vs ty (0,0))/\B.w0.heap.size<=b/\(B.wf.heap.size<=b∨B.own b)
 inj:∀k k' b cs cs' ty ty',lh[k]? = some (.cells cs ty)->lh[k']? = some (.cells cs' ty')->m k=some b->m k'=some b->k=k'
 dom:∀k,lh.length<=k->m k=none
 dead:∀k,lh[k]? = some .dead->m k=none
 rng:∀k b,m k=some b->b<w.heap.size
theorem ba.start (w:World):ba ⟨w,w,λ_=>False,[]⟩ (λ_=>none) [] w :=
 ⟨rfl,rfl,rfl,Dm _,λ_ _=>rfl,Dm _,λ_ _ _=>rfl,λ_ _ _ h=>by simp at h,λ_ _ _ _ _ _ _ h=>by simp at h,λ_ _=>rfl,λ_ _=>rfl,λ_ _ h=>by cases h⟩
theorem ba.drew {B:dj} {m:aJ} {lh:List av} {w:World} (h:ba B m lh w) (n:Nat):ba B m lh { w with drawn:=n } :=
 ⟨h.os,h.tape,h.output,h.size,h.old,h.fsize,h.kept,h.loc,h.inj,h.dom,h.dead,h.rng⟩
theorem ba.cell {B:dj} {m:aJ} {lh:List av} {w:World} (h:ba B m lh w) {k off:Nat} {cs:List ah} {ty:TypeId} {c:ah}
 (hk:lh[k]? = some (.cells cs ty)) (hc:cs[off]? = some c) {X1:Option Addr} (hq:dR m (some (.l k off)) X1) :
 ∃b v,X1=some ⟨b,off,none⟩/\m k=some b/\w.cell? ⟨b,off,none⟩=some v/\w.frozen? ⟨b,off,none⟩=false/\CL m c v:=by
 obtain⟨b,hb,rfl⟩:=hq
 let ⟨b',vs,Xw,Y2,hh,_⟩:=h.loc k cs ty hk
 rw[hb]at Xw;cases Xw
 let ⟨v,y,hr⟩:=ir off Y2 hc
 refine⟨b,v,rfl,hb,?_,?_,hr⟩
 ·simp[World.cell?,hh];simpa using y
 ·simp[World.frozen?,hh]
theorem ba.cell_g {B:dj} {m:aJ} {lh:List av} {w:World} (h:ba B m lh w) {a:Addr} {v:Value} (hc:B.w0.cell? a=some v):w.cell? a=some v:=by
 have hb:a.block<B.w0.heap.size:=by apply Classical.byContradiction;intro hn;simp[World.cell?,Qt (Nat.le_of_not_lt hn)]at hc
 simp[World.cell?,h.old _ hb];exact hc
end Go.Sx
namespace Go.Sx
theorem ag5 {α β:Type} (P:Program):∀ (s:Sem α) (f:α->Sem β) (w:World),(s >>= f).run P w=match s.run P w with
 |.ok a w'=>(f a).run P w'|.halt h w'=>.halt h w':=by
 intro s f;show ∀w,(Sem.bind s f).run P w=_;induction s with
 |pure a=>intro w;rfl
 |load m a k ih=>
   intro w;simp[Sem.bind,Sem.run];split
   ·exact ih _ _
   ·split
    ·exact ih _ _
    ·rfl
 |store m a v k ih=>
   intro w
   cases v<;>simp[Sem.bind,Sem.run]<;>first
    |rfl
    | (split
       ·split
        ·rfl
        ·exact ih _
       ·split
        ·exact ih _
        ·rfl)
 |new o k ih=>intro w;simp[Sem.bind,Sem.run];exact ih _ _|shape r k ih=>intro w;simp[Sem.bind,Sem.run];exact ih _ _|freeze a n k ih=>intro w;simp[Sem.bind,Sem.run];exact ih _|frozen a k ih=>intro w;simp[Sem.bind,Sem.run];exact ih _ _
 |getObj r k ih=>
   intro w;simp[Sem.bind,Sem.run];split
   ·rfl
   ·exact ih _ _
   ·rfl
 |setObj r o k ih=>
   intro w;simp[Sem.bind,Sem.run];split
   ·rfl
   ·exact ih _
   ·rfl
 |choose X1 k ih=>
   intro w;simp[Sem.bind,Sem.run];split
   ·exact ih _ _
   ·exact ih _ _
 |sys c k ih=>intro w;simp[Sem.bind,Sem.run];exact ih _ _|program k ih=>intro w;simp[Sem.bind,Sem.run];exact ih _ _|mark m k ih=>intro w;simp[Sem.bind,Sem.run];exact ih _|halt h=>intro w;rfl
theorem ac {α β:Type} {P:Program} {s:Sem α} {f:α->Sem β} {w w':World} {a:α} (h:s.run P w=.ok a w'):(s >>= f).run P w=(f a).run P w':=by rw[ag5,h]
theorem ba.put {B:dj} {m:aJ} {lh lh':List av} {w:World} (h:ba B m lh w) {p:Nat} {cs:List ah} {ty:TypeId} {vs:Array Value}
 (hp:m p=none) (hl:lh'[p]? = some (.cells cs ty)) (ho:∀k,k ≠ p->lh'[k]? = lh[k]?) (y:aC m cs vs.toList) :
 ba B (λk=>if k=p then some w.heap.size else m k) lh' { w with heap:=w.heap.push (.cells vs ty (0,0)) }/\m.le (λk=>if k=p then some w.heap.size else m k):=by
 have Y3:m.le (λk=>if k=p then some w.heap.size else m k):=λk b hk=>by
  have:k≠p:=λe=>by rw[e,hp]at hk;cases hk
  simp[this,hk]
 refine⟨⟨h.os,h.tape,h.output,by have:=h.size;simp;omega,λb hb=>?_,by have:=h.fsize;simp;omega,λb hb Zm=>?_,λk cs' ty' hk=>?_,λk k' b cs1 cs2 ty1 ty2 N Q hb Xw=>?_,λk hk=>?_,λk hk=>?_,λk b hk=>?_⟩,Y3⟩
 ·have:=h.size;rw[P5,Ck I];exact h.old b hb
 ·have:=h.fsize;rw[P5,Ck I];exact h.kept b hb Zm
 ·by_cases e:k=p
  ·subst e;rw[hl]at hk;cases hk;exact⟨w.heap.size,vs,aD,cH Y3 _ _ y,aD,h.size,.inl h.fsize⟩
  ·rw[ho k e]at hk
   let ⟨b,us,hb,Z3,hh,hbs⟩:=h.loc k cs' ty' hk
   refine⟨b,us,by simp[e,hb],cH Y3 _ _ Z3,?_,hbs⟩;have:=h.rng k b hb;show(w.heap.push _)[b]? = _;rw[P5,Ck I];exact hh
 ·by_cases e:k=p<;>by_cases e':k'=p
  ·rw[e,e']
  ·simp[e,J6]at hb;cases hb;simp[e',IG]at Xw;have:=h.rng k' _ Xw;omega
  ·simp[e',J6]at Xw;cases Xw;simp[e,IG]at hb;have:=h.rng k _ hb;omega
  ·simp[e,e',IG]at hb Xw;rw[ho k e]at N;rw[ho k' e']at Q;exact h.inj k k' b cs1 cs2 ty1 ty2 N Q hb Xw
 ·have e:k≠p:=λe=>by
   subst e;rw[IP hk]at hl;cases hl
  simp[e,IG];apply h.dom;have:=ho k e;rw[IP hk]at this;exact List.getElem?_eq_none_iff.1 this.symm
 ·have e:k≠p:=λe=>by subst e;rw[hl]at hk;cases hk
  simp[e,IG];exact h.dead k (by rw[← ho k e];exact hk)
 ·by_cases e:k=p
  ·simp[e,J6]at hk;cases hk;simp
  ·simp[e,IG]at hk;have:=h.rng k b hk;simp;omega
theorem ba.push {B:dj} {m:aJ} {lh:List av} {w:World} (h:ba B m lh w) {cs:List ah} {ty:TypeId} {vs:Array Value} (y:aC m cs vs.toList) :
 ba B (λk=>if k=lh.length then some w.heap.size else m k) (lh++[.cells cs ty]) { w with heap:=w.heap.push (.cells vs ty (0,0)) } /\
  m.le (λk=>if k=lh.length then some w.heap.size else m k) :=
 h.put (h.dom _ (Dm _)) aD (λk hk=>by
  rw[JS];split
  ·rfl
  ·rename_i hn;rw[IP (by simp;omega),IP I]) y
theorem ba.junk {B:dj} {m:aJ} {lh:List av} {w:World} (h:ba B m lh w) (o:Obj):ba B m lh { w with heap:=w.heap.push o } :=
 ⟨h.os,h.tape,h.output,by have:=h.size;simp;omega,λb hb=>by have:=h.size;rw[P5,Ck I];exact h.old b hb,
  by have:=h.fsize;simp;omega,λb hb ho=>by have:=h.fsize;rw[P5,Ck I];exact h.kept b hb ho,
  fun k cs ty hk=>by
   let ⟨b,vs,hb,Y2,hh,hs⟩:=h.loc k cs ty hk
   have:=h.rng k b hb;exact⟨b,vs,hb,Y2,by rw[P5,Ck I];exact hh,hs⟩,
  h.inj,h.dom,h.dead,λk b hk=>by have:=h.rng k b hk;simp;omega⟩
theorem ba.set {B:dj} {m:aJ} {lh:List av} {w:World} (h:ba B m lh w) {k off:Nat} {cs:List ah} {ty:TypeId} {x:ah} {v:Value} {b:Nat}
 (hk:lh[k]? = some (.cells cs ty)) (hb:m k=some b) (hx:CL m x v) :
 ba B m (lh.set k (.cells (cs.set off x) ty)) (w.setCell ⟨b,off,none⟩ v):=by
 let ⟨b',vs,Xw,Y2,hh,hs,Zn⟩:=h.loc k cs ty hk
 rw[hb]at Xw;cases Xw;have fm:k<lh.length:=(List.getElem?_eq_some_iff.1 hk).1;have hget:∀j,(lh.set k (.cells (cs.set off x) ty))[j]? = if k=j then some (.cells (cs.set off x) ty) else lh[j]? := λj=>by rw[HM];split<;>simp_all
 have hheap:∀ i,(w.setCell ⟨b,off,none⟩ v).heap[i]? = if b=i then some (.cells (vs.setIfInBounds off v) ty (0,0)) else w.heap[i]? := λi=>by
  simp[World.setCell,Array.getElem?_modify];split
  ·rename_i e;subst e;simp[hh]
  ·rfl
 have YD:(w.setCell ⟨b,off,none⟩ v).heap.size=w.heap.size:=by simp[World.setCell]
 refine⟨h.os,h.tape,h.output,by rw[YD];exact h.size,λi hi=>?_,by rw[YD];exact h.fsize,λi hi ho=>?_,λj cs' ty' hj=>?_,λj j' i cs1 cs2 ty1 ty2 N Q hi YC=>?_,λj hj=>?_,λj hj=>?_,λj i hj=>?_⟩
 ·rw[hheap,Ck I];exact h.old i hi
 ·rw[hheap,Ck (λe=>by subst e;rcases Zn with N|N;exact absurd hi I;exact ho N)];exact h.kept i hi ho
 ·rw [hget]at hj
  split at hj
  ·rename_i e;subst e;cases hj;refine⟨b,vs.setIfInBounds off v,hb,?_,by rw[hheap,DL rfl],hs,Zn⟩;rw[S6];exact jH off Y2 hx
  ·rename_i e
   let ⟨i,us,hi,Z3,hhi,his⟩:=h.loc j cs' ty' hj
   refine⟨i,us,hi,Z3,?_,his⟩;rw[hheap,Ck (λe'=>e (h.inj k j b cs cs' ty ty' hk hj hb (by rw[hi,e'])))];exact hhi
 ·have f:∀ {j:Nat} {c:List ah} {t:TypeId},(lh.set k (av.cells (cs.set off x) ty))[j]? = some (av.cells c t)->∃ c' t',lh[j]? = some (av.cells c' t'):=λ{j c t} hj=>by
   rw[hget]at hj;split at hj
   ·rename_i e;subst e;exact⟨_,_,hk⟩
   ·exact⟨_,_,hj⟩
  let ⟨c1,t1,g1⟩:=f N
  let ⟨c2,t2,g2⟩:=f Q
  exact h.inj j j' i c1 c2 t1 t2 g1 g2 hi YC
 ·exact h.dom j (by simpa using hj)
 ·rw[hget]at hj;split at hj
  ·cases hj
  ·exact h.dead j hj
 ·rw[YD];exact h.rng j i hj
def wr:List ah->Nat->List ah->List ah
 |cs,_,[]=>cs|cs,off,x::xs=>wr (cs.set off x) (off+1) xs
theorem nX:∀ (xs cs:List ah) (off:Nat),(wr cs off xs).length=cs.length
 |[],_,_=>rfl|_::xs,cs,off=>by simp[wr,nX xs]
theorem lC (b off i:Nat):(⟨b,off,none⟩:Addr).add i=⟨b,off+i,none⟩:=by
 unfold Addr.add;split
 ·rename_i h;subst h;rfl
 ·rfl
theorem afw {P:Program} {w:World} {a:Addr} {v:Value} {u:Value} (y:lG v=true) (hc:w.cell? a=some u) (hf:w.frozen? a=false):(store a v).run P w=.ok () (w.setCell a v):=by cases v<;>simp_all [store,Sem.run,lG]
theorem ba.stores {B:dj} {m:aJ} {P:Program} {k b off:Nat} {ty:TypeId} (hb:m k=some b):∀ (xs:List ah) (us:List Value) (cs:List ah) (lh:List av) (w:World) (i:Nat),
 ba B m lh w->lh[k]? = some (.cells cs ty)->off+i+xs.length<=cs.length->aC m xs us->(∀u∈us,lG u=true) ->
 ∃w',(storeCells ⟨b,off,none⟩ us i).run P w=.ok () w'/\ba B m (lh.set k (.cells (wr cs (off+i) xs) ty)) w':=by
 intro xs;induction xs with
 |nil=>
   intro us cs lh w i h hk hl hr _;simp[aC]at hr;subst hr;refine⟨w,by unfold storeCells;rfl,?_⟩;have:lh.set k (.cells (wr cs (off+i) []) ty)=lh:=by
    apply Kk;intro j;rw[HM];split
    ·rename_i e;subst e
     let ⟨N,Q⟩:=List.getElem?_eq_some_iff.1 hk
     simp[wr,N,Q]
    ·rfl
   rw[this];exact h
 |cons x xs ih=>
   intro us cs lh w i h hk hl hr N;simp[aC]at hr;obtain⟨u,us,rfl,hx,hr⟩:=hr;have XD:off+i<cs.length:=by simp at hl;omega
   let ⟨b',v,hq,Xw,hc,hf,_⟩:=h.cell hk (KO XD) ⟨b,hb,rfl⟩
   rw[hb]at Xw;cases Xw;have hs:=h.set (off:=off+i) hk hb hx;have fm:k<lh.length:=(List.getElem?_eq_some_iff.1 hk).1
   let ⟨w',h1,hrel⟩:=ih us (cs.set (off+i) x) (lh.set k (.cells (cs.set (off+i) x) ty)) (w.setCell ⟨b,off+i,none⟩ u) (i+1) hs (by simp[fm]) (by simp at hl ⊢;omega) hr (λu' Zp=>N u' (Mw _ Zp))
   refine⟨w',?_,?_⟩
   ·unfold storeCells;rw[lC,ac (afw (N u Li) hc hf)];exact h1
   ·rw[List.set_set]at hrel;exact hrel
end Go.Sx
namespace Go.Sx
def bL:Value->ah
 |.int k n=>.int k n|.bool b=>.bool b|.string s=>.str s|.pointer none=>.ptr none|.pointer (some a)=>.ptr (some (.g a))|.slice none n c=>.slice none n c|.slice (some a) n c=>.slice (some (.g a)) n c|v=>.raw v
theorem cn (m:aJ) (v:Value):CL m (bL v) v:=by
 cases v with
 |pointer a=>cases a<;>simp[bL,CL,dR]|slice a n c=>cases a<;>simp[bL,CL,dR]|_=>simp[bL,CL]
def hU.add:hU->Nat->hU
 |.l k off,n=>.l k (off+n)|.g a,n=>.g (a.add n)
theorem qm {m:aJ} {p:hU} {X1:Option Addr} (h:dR m (some p) X1) (n:Nat):∃ a,X1=some a/\dR m (some (p.add n)) (some (a.add n)):=by
 cases p with
 |l k off=>obtain⟨b,hb,rfl⟩:=h;exact⟨_,rfl,b,hb,by rw[lC]⟩|g a=>simp[dR]at h;subst h;exact⟨a,rfl,rfl⟩
def gf (w0:World) (a:Addr):Nat->Nat->Option (List ah)
 |_,0=>some []
 |i,n+1=>match w0.cell? (a.add i),gf w0 a (i+1) n with|some v,some l=>some (bL v::l)|_,_=>none
def lds (w0:World) (lh:List av):hU->Nat->Option (List ah)
 |.l k off,n=>match lh[k]? with
   |some (.cells cs _)=>if off+n<=cs.length then some ((cs.drop off).take n) else none
   |_=>none
 |.g a,n=>gf w0 a 0 n
def ld (w0:World) (lh:List av):hU->Option ah
 |.l k off=>match lh[k]? with|some (.cells cs _)=>cs[off]?|_=>none
 |.g a=>(w0.cell? a).map bL
theorem Am {B:dj} {m:aJ} {lh:List av} {w:World} (h:ba B m lh w) {p:hU} {X1:Option Addr} (hq:dR m (some p) X1) {x:ah} (hx:ld B.w0 lh p=some x) :
 ∃a v,X1=some a/\w.cell? a=some v/\CL m x v:=by
 cases p with
 |l k off=>
   simp[ld]at hx;split at hx
   ·rename_i cs ty hk
    let ⟨b,v,N,_,h3,_,h5⟩:=h.cell hk hx hq
    exact⟨_,v,N,h3,h5⟩
   ·cases hx
 |g a=>simp[dR]at hq;subst hq;simp[ld,HG]at hx;obtain⟨v,y,rfl⟩:=hx;exact⟨a,v,rfl,h.cell_g y,cn m v⟩
theorem vk {P:Program} {w:World} {a:Addr} {v:Value} (h:w.cell? a=some v):(load a).run P w=.ok v w:=by simp[load,Sem.run,h]
theorem mr {P:Program} {w:World} {a:Addr}:∀ (vs:List Value) (i:Nat) (acc:Array Value),(∀ j v,vs[j]? = some v->w.cell? (a.add (i+j))=some v) ->
 (loadCellsFrom a i vs.length acc).run P w=.ok (acc++vs.toArray) w
 |[],i,acc,_=>by simp[loadCellsFrom]
 |v::vs,i,acc,h=>by
   simp only[MN,loadCellsFrom];have h0:w.cell? (a.add i)=some v:=by simpa using h 0 v rfl
   rw[ac (vk h0),mr vs (i+1) (acc.push v) (λj u hu=>by have:=h (j+1) u (by simpa using hu);rw[← this];congr 2;omega)];simp
theorem er {w0:World} {a:Addr}:∀ (n i:Nat) (xs:List ah),gf w0 a i n=some xs->∃ vs:List Value,xs=vs.map bL/\vs.length=n/\∀ j v,vs[j]? = some v->w0.cell? (a.add (i+j))=some v
 |0,i,xs,h=>by simp[gf,H2]at h;subst h;exact⟨[],rfl,rfl,λj v y=>by simp at y⟩
 |n+1,i,xs,h=>by
   simp[gf]at h;split at h
   ·rename_i v l y hl
    cases h;obtain⟨vs,rfl,Q,h3⟩:=er n (i+1) l hl;refine⟨v::vs,rfl,by simp[Q],λj u hu=>?_⟩;cases j with
    |zero=>simp at hu;subst hu;exact y|succ j=>have:=h3 j u (by simpa using hu);rw[← this];congr 2;omega
   ·cases h
theorem cj (m:aJ):∀ vs:List Value,aC m (vs.map bL) vs
 |[]=>by simp[aC]
 |v::vs=>by simp only[Ja,aC];exact⟨_,_,rfl,cn m v,cj m vs⟩
theorem rB {B:dj} {m:aJ} {lh:List av} {w:World} {P:Program} (h:ba B m lh w) {p:hU} {X1:Option Addr} (hq:dR m (some p) X1) {n:Nat} {xs:List ah} (hx:lds B.w0 lh p n=some xs) :
 ∃a vs,X1=some a/\(loadCells a n).run P w=.ok vs w/\aC m xs vs.toList:=by
 cases p with
 |l k off=>
   simp[lds]at hx;split at hx
   ·rename_i cs ty hk
    split at hx
    ·rename_i Y3
     cases hx;obtain⟨b,hb,rfl⟩:=hq
     let ⟨b',vs,Xw,Y2,hh,_⟩:=h.loc k cs ty hk
     rw[hb]at Xw;cases Xw;have hl:=cB Y2;have hr:=fj n (fV off Y2);have hn:((vs.toList.drop off).take n).length=n:=by simp at hl ⊢;omega
     refine⟨_,((vs.toList.drop off).take n).toArray,rfl,?_,by simpa using hr⟩;have:=mr (P:=P) (w:=w) (a:=⟨b,off,none⟩) ((vs.toList.drop off).take n) 0 #[] (λj v y=>by
      rw[lC];rw[Ji]at y;split at y
      ·rw[LU]at y;simp[World.cell?,hh];simpa using y
      ·cases y)
     rw[hn]at this;simpa[loadCells] using this
    ·cases hx
   ·cases hx
 |g a=>simp[dR]at hq;subst hq;obtain⟨vs,rfl,Q,h3⟩:=er n 0 xs hx;refine⟨a,vs.toArray,rfl,?_,by simpa using cj m vs⟩;have:=mr (P:=P) (w:=w) (a:=a) vs 0 #[] (λj v y=>h.cell_g (h3 j v y));rw[Q]at this;simpa[loadCells] using this
inductive fM where|t (i:Nat)|k (v:ah)
def arg (sl:List ah):fM->ah
 |.t i=>sl.getD i .any|.k v=>v
def be:Operand->fM
 |.tmp t=>.t t|.const v=>.k (bL v)|.global g=>.k (.ptr (some (.g ⟨g,0,none⟩)))|.func f=>.k (.fn (.func f) [] [])
theorem aV {m:aJ} {sl:List ah} {a:Act} (h:aC m sl a.tmps.toList) (x:Operand):CL m (arg sl (be x)) (a.eval x):=by
 cases x with
 |tmp t=>simp[be,arg,Act.eval];have:=mj h t undef;simpa using this
 |const v=>exact cn m v|global g=>simp[be,arg,Act.eval,CL,dR]|func f=>simp[be,arg,Act.eval,CL,aC]
theorem gF {m:aJ} {sl:List ah} {a:Act} (h:aC m sl a.tmps.toList):∀ xs:List Operand,aC m ((xs.map be).map (arg sl)) (xs.map a.eval)
 |[]=>by simp[aC]
 |x::xs=>by simp only[Ja,aC];exact⟨_,_,rfl,aV h x,gF h xs⟩
abbrev bT:=World->List ah->List av->(ah->List av->Prop)->Prop
def iq (lh:List av) (m:aJ) (lh':List av) (m':aJ):Prop:=m.le m'/\∀k,lh[k]? = some .hid->lh'[k]? = some .hid/\m' k=m k
theorem iq.refl (lh:List av) (m:aJ):iq lh m lh m:=⟨aJ.le_refl m,λ_ h=>⟨h,rfl⟩⟩
theorem iq.trans {l1 l2 l3:List av} {m1 m2 m3:aJ} (h:iq l1 m1 l2 m2) (k:iq l2 m2 l3 m3):iq l1 m1 l3 m3 :=
 ⟨aJ.le_trans h.1 k.1,λj hj=>⟨(k.2 j (h.2 j hj).1).1,((k.2 j (h.2 j hj).1).2).trans (h.2 j hj).2⟩⟩
def aaQ (P : Program) (f : FuncId) : Prop := ∃ fn, P.funcs[f]? = some fn /\ (fn.name == "runtime.NumGoroutine") = false /\ fn.body.isNone = false
def bT.Sound (P:Program) (f:FuncId) (Uc:bT):Prop :=
 ∀ (B:dj) (m:aJ) (lh:List av) (w:World) (args:List ah) (vs:List Value) (K:ah->List av->Prop),ba B m lh w->aC m args vs->Uc B.w0 args lh K ->
  aaQ P f/\Calls P f vs.toArray w λe w'=>∃v r m' lh',e=.returned v/\CL m' r v/\iq lh m lh' m'/\ba B m' lh' w'/\K r lh'
def cd:List ah->List ah->Option Bool
 |[],[]=>some true|.int k a::xs,.int k' b::ys=>if k=k' then(cd xs ys).map (a==b&&·) else none
 |_,_=>none
def dc (P:Program) (t:TypeId):Prop:=P.eqGuardType P.depth t=false/\∀ (n:Nat),(P.info? t).map (·.size)=some n->∀ (xs ys:List ah) (us vs:Array Value) (m:aJ) (b:Bool) (w:World),xs.length=n->aC m xs us.toList->aC m ys vs.toList->cd xs ys=some b ->
 (Op.equal t (.agg us) (.agg vs)).run P w=.ok b w
inductive kl where
 |mov (x:fM)
 |pick (c a b:fM)
 |new (ty:TypeId) (zero:List ah)
 |box (ty:TypeId) (x:fM)
 |agg (zero:List ah) (parts:List (Nat×Nat×fM))
 |bsl (ty:TypeId) (len:Nat) (zero:List ah) (parts:List (Nat×Nat×fM))
 |ld (a:fM)
 |lds (n:Nat) (a:fM)
 |st (n:Nat) (a x:fM)
 |nz (x:fM)
 |bin (op:BinOp) (x At:fM)
 |eqa (neg:Bool) (n:Nat) (x At:fM)
 |eqb (neg:Bool) (x At:fM)
 |un (op:UnOp) (x:fM)
 |conv (k:IntKind) (x:fM)
 |mkf (fn:Fn) (first caps:List fM)
 |fa (off:Nat) (x:fM)
 |fld (off:Nat) (n:Option Nat) (x:fM)
 |iaA (len esz:Nat) (x ix:fM)
 |iaS (esz:Nat) (x ix:fM)
 |ixA (len esz:Nat) (n:Option Nat) (x ix:fM)
 |ixS (x ix:fM)
 |len (x:fM)
 |lenT (x:fM)
 |lenA (n:Nat)
 |mm (isMax:Bool) (x:fM) (xs:List fM)
 |ext (x:fM) (i:Nat)
 |slS (esz:Nat) (x:fM) (lo hi mx:Option fM)
 |slA (n esz:Nat) (x:fM) (lo hi mx:Option fM)
 |slT (x:fM) (lo hi:Option fM)
 |app (ty:TypeId) (esz bytes:Nat) (zero:List ah) (s x:fM)
 |mks (ty:TypeId) (n:Nat) (cells:List ah)
 |call (f:FuncId) (args:List fM)
 |callv (x:fM) (args:List fM)
 |isn (neg:Bool) (x:fM)
 |clr (esz:Nat) (z:List ah) (x:fM)
end Go.Sx
namespace Go.Sx
def place (pl:Option Nat) (lh:List av) (o:av) (K:Nat->List av->Prop):Prop :=
 match pl with
 |none=>K lh.length (lh++[o])|some p=>lh[p]? = some .dead/\K p (lh.set p o)
def parts (sl:List ah):List (Nat×Nat×fM)->List ah->(List ah->Prop)->Prop
 |[],z,K=>K z|(off,n,x)::ps,z,K=>(arg sl x).flat=true/\(arg sl x).cells.length=n/\off+n<=z.length/\parts sl ps (wr z off (arg sl x).cells) K
def rl (op:BinOp) (k:IntKind) (a b:Int) (K:ah->Prop):Prop :=
 match op with
 |.add=>K (.int k (k.wrap (a+b)))|.sub=>K (.int k (k.wrap (a-b)))|.mul=>K (.int k (k.wrap (a*b)))|.quo=>b≠0/\K (.int k (k.wrap (a.tdiv b)))|.rem=>b≠0/\K (.int k (a.tmod b))|.eql=>K (.bool (a==b))|.neq=>K (.bool (a !=b))|.lss=>K (.bool (decide (a<b)))|.leq=>K (.bool (decide (a<=b)))|.gtr=>K (.bool (decide (b<a)))|.geq=>K (.bool (decide (b<=a)))|.and=>K (.int k (bits .and k a b))|.or=>K (.int k (bits .or k a b))|.xor=>K (.int k (bits .xor k a b))|.shl=>0<=b/\K (.int k (k.wrap (a*2 ^ min b.toNat k.bits)))|.shr=>0<=b/\K (.int k (a.fdiv (2 ^ min b.toNat k.bits)))|_=>False
def zJ (op:BinOp) (a b:ByteArray) (K:ah->Prop):Prop :=
 match op with
 |.eql=>K (.bool (a.toList==b.toList))|.neq=>K (.bool !(a.toList==b.toList))|.add=>((a.size+b.size:Nat):Int)<=IntKind.i64.max/\K (.str (a++b))|_=>False
def MB (op:BinOp) (x At:ah) (K:ah->Prop):Prop :=
 match x,At with
 |.int k a,.int k' b=>k=k'/\rl op k a b K|.str a,.str b=>zJ op a b K|_,_=>False
def bnd (x:Option ah) (At d:Nat) (K:Nat->Prop):Prop :=
 match x with
 |none=>K d|some (.int _ i)=>0<=i/\i<=At/\K i.toNat|_=>False
def mm2 (isMax:Bool):ah->List ah->(ah->Prop)->Prop
 |x,[],K=>K x|.int k a,.int k' b::xs,K=>k=k'/\mm2 isMax (.int k (if isMax then max a b else min a b)) xs K|_,_,_=>False
def cellsOf (w0:World) (lh:List av) (p:Option hU) (n:Nat):Option (List ah) :=
 match p with
 |none=>some []|some p=>lds w0 lh p n
def q8 (w0:World) (lh:List av) (pl:Option Nat) (ty:TypeId) (esz bytes:Nat) (zero:List ah) (K:ah->List av->Prop):ah->ah->Prop
 |.slice p n c,.slice X1 k _=>
   ∃ new, cellsOf w0 lh X1 (k*esz)=some new /\
    (n+k<=c->match p with
      | some (.l b off)=>∃ cs t,lh[b]? = some (.cells cs t)/\new.all ah.one=true/\off+n*esz+new.length<=cs.length /\
         K (.slice (some (.l b off)) (n+k) c) (lh.set b (.cells (wr cs (off+n*esz) new) t))
      |none=>K (.slice none (n+k) c) lh|some (.g a)=>new=[]/\K (.slice (some (.g a)) (n+k) c) lh) /\
    (c<n+k->∃ old,cellsOf w0 lh p (n*esz)=some old/\Builtin.nextslicecap (n+k) c*bytes<=2 ^ 48/\(((n+k:Nat):Int)<=IntKind.i64.max∨bytes≠0) /\
      ∀c',n+k<=c'->place pl lh (.cells (old++new++(List.replicate (c'-(n+k)) zero).flatten) ty) λb lh'=>K (.slice (some (.l b 0)) (n+k) c') lh')
 |_,_=>False
def db (w0:World) (Uc:FuncId->bT) (sl:List ah) (lh:List av) (pl:Option Nat) (K:ah->List av->Prop):kl->Prop
 |.mov x=>K (arg sl x) lh
 |.pick c a b=>match arg sl c with
   |.bool t=>(t=true->K (arg sl a) lh)/\(t=false->K (arg sl b) lh)
   |_=>False
 |.new ty z=>place pl lh (.cells z ty) λp lh'=>K (.ptr (some (.l p 0))) lh'
 |.box ty x=>(arg sl x).flat=true/\place pl lh (.cells (arg sl x).cells ty) λp lh'=>K (.ptr (some (.l p 0))) lh'
 |.agg z ps=>parts sl ps z λcs=>K (.agg cs) lh
 |.bsl ty n z ps=>parts sl ps z λcs=>place pl lh (.cells cs ty) λp lh'=>K (.slice (some (.l p 0)) n n) lh'
 |.ld a=>match arg sl a with
   |.ptr (some p)=>∃v,ld w0 lh p=some v/\K v lh
   |_=>False
 |.lds n a=>match arg sl a with
   |.ptr (some p)=>∃cs,lds w0 lh p n=some cs/\K (.agg cs) lh
   |_=>False
 |.st n a x=>match arg sl a with
   | .ptr (some (.l k off))=>∃ cs ty,lh[k]? = some (.cells cs ty)/\(arg sl x).flat=true/\(arg sl x).cells.length=n/\off+n<=cs.length /\
      K (.tup []) (lh.set k (.cells (wr cs off (arg sl x).cells) ty))
   |_=>False
 |.nz x=>match arg sl x with
   |.ptr (some p)=>K (.ptr (some p)) lh
   |.fn (.func f) a b=>K (.fn (.func f) a b) lh
   |_=>False
 |.bin op x At=>MB op (arg sl x) (arg sl At) λv=>K v lh
 |.eqa neg n x At=>match arg sl x,arg sl At with
   |.agg xs,.agg ys=>xs.length=n/\∃b,cd xs ys=some b/\K (.bool (if neg then !b else b)) lh
   |_,_=>False
 |.eqb neg x At=>match arg sl x,arg sl At with
   |.bool a,.bool b=>K (.bool (if neg then !(a==b) else a==b)) lh
   |_,_=>False
 |.un op x=>match op,arg sl x with
   |.neg,.int k n=>K (.int k (k.wrap (0-n))) lh
   |.not,.bool b=>K (.bool !b) lh
   |_,_=>False
 |.conv k x=>match arg sl x with
   |.int _ n=>K (.int k (k.wrap n)) lh
   |_=>False
 |.mkf f xs ys=>K (.fn f (xs.map (arg sl)) (ys.map (arg sl))) lh
 |.fa off x=>match arg sl x with
   |.ptr (some p)=>K (.ptr (some (p.add off))) lh
   |_=>False
 |.fld off n x=>match arg sl x with
   |.agg cs=>match n with
     |some n=>K (.agg ((cs.drop off).take n)) lh
     |none=>∃v,cs[off]? = some v/\K v lh
   |_=>False
 |.iaA n esz x ix=>match arg sl x,arg sl ix with
   |.ptr (some p),.int _ i=>0<=i/\i<n/\K (.ptr (some (p.add (i.toNat*esz)))) lh
   |_,_=>False
 |.iaS esz x ix=>match arg sl x,arg sl ix with
   |.slice p n _,.int _ i=>0<=i/\i<n/\∃X1,p=some X1/\K (.ptr (some (X1.add (i.toNat*esz)))) lh
   |_,_=>False
 |.ixA n esz sz x ix=>match arg sl x,arg sl ix with
   |.agg cs,.int _ i=>0<=i/\i<n/\match sz with
     |some sz=>K (.agg ((cs.drop (i.toNat*esz)).take sz)) lh
     |none=>∃v,cs[i.toNat*esz]? = some v/\K v lh
   |_,_=>False
 |.ixS x ix=>match arg sl x,arg sl ix with
   |.str s,.int _ i=>0<=i/\i<s.size/\K (.int .u8 ((s.data.toList.getD i.toNat 0).toNat:Int)) lh
   |_,_=>False
 |.len x=>match arg sl x with
   |.slice _ n _=>K (.int .i64 n) lh
   |_=>False
 |.lenT x=>match arg sl x with
   |.str s=>K (.int .i64 s.size) lh
   |_=>False
 |.lenA n=>K (.int .i64 n) lh
 |.mm b x xs=>mm2 b (arg sl x) (xs.map (arg sl)) λv=>K v lh
 |.ext x i=>match arg sl x with
   |.tup vs=>∃v,vs[i]? = some v/\K v lh
   |_=>False
 |.slS esz x lo hi mx=>match arg sl x with
   |.slice p n c=>bnd (mx.map (arg sl)) c c λm=>bnd (hi.map (arg sl)) m n λh=>bnd (lo.map (arg sl)) h 0 λl=>
      K (.slice (if m=l then p else p.map (hU.add · (l*esz))) (h-l) (m-l)) lh
   |_=>False
 |.slA n esz x lo hi mx=>match arg sl x with
   |.ptr (some p)=>bnd (mx.map (arg sl)) n n λm=>bnd (hi.map (arg sl)) m n λh=>bnd (lo.map (arg sl)) h 0 λl=>
      K (.slice (some (if m=l then p else p.add (l*esz))) (h-l) (m-l)) lh
   |_=>False
 |.slT x lo hi=>match arg sl x with
   |.str s=>bnd (hi.map (arg sl)) s.size s.size λh=>bnd (lo.map (arg sl)) h 0 λl=>K (.str (s.extract l h)) lh
   |_=>False
 |.app ty esz bytes zero s x=>q8 w0 lh pl ty esz bytes zero K (arg sl s) (arg sl x)
 |.mks ty n cs=>place pl lh (.cells cs ty) λp lh'=>K (.slice (some (.l p 0)) n n) lh'
 |.call f xs=>Uc f w0 (xs.map (arg sl)) lh K
 |.callv x xs=>match arg sl x with
   |.fn (.func f) a b=>Uc f w0 (a++xs.map (arg sl)++b) lh K
   |_=>False
 |.isn neg x=>match arg sl x with
   |.slice p _ _=>K (.bool (if neg then !p.isNone else p.isNone)) lh
   |_=>False
 |.clr esz z x=>match arg sl x with
   |.slice (some (.l k off)) n _=>∃cs ty,lh[k]? = some (.cells cs ty)/\n≠0/\off+n*esz<=cs.length/\K (.tup []) (lh.set k (.cells (wr cs off (List.replicate n z).flatten) ty))
   |.slice _ n _=>n=0/\K (.tup []) lh
   |_=>False
def cQ (P:Program) (o:Oper) (a:Act) (w:World) (XX:Value->World->Prop):Prop :=
 (∃v w',(execOp a.eval o).run P w=.ok (.value v) w'/\XX v w') ∨
 (∃w',(execOp a.eval o).run P w=.ok .skip w'/\XX undef w') ∨
 (∃f args,(execOp a.eval o).run P w=.ok (.enter f args) w/\Calls P f args w λe w'=>∃v,e=.returned v/\XX v w')
theorem a6 {P:Program} {o:Oper} {a:Act} {w w':World} {XX:Value->World->Prop} {s:Sem Value} {v:Value}
 (he:execOp a.eval o=(do pure (.value (← s)))) (hs:s.run P w=.ok v w') (hR:XX v w'):cQ P o a w XX :=
 .inl ⟨v,w',by rw[he,ac hs];rfl,hR⟩
theorem aeA {P:Program} {o:Oper} {a:Act} {w w':World} {XX:Value->World->Prop} {s:Sem Unit}
 (he:execOp a.eval o=(do s;pure .skip)) (hs:s.run P w=.ok () w') (hR:XX undef w'):cQ P o a w XX :=
 .inr (.inl ⟨w',by rw[he,ac hs];rfl,hR⟩)
def Da (B:dj) (m:aJ) (lh:List av) (K:ah->List av->Prop) (v:Value) (w:World):Prop :=
 ∃r m' lh',CL m' r v/\iq lh m lh' m'/\ba B m' lh' w/\K r lh'
theorem Da.same {B:dj} {m:aJ} {lh:List av} {w:World} {K:ah->List av->Prop} {v:Value} {r:ah} (h:ba B m lh w) (hr:CL m r v) (hK:K r lh):Da B m lh K v w :=
 ⟨r,m,lh,hr,iq.refl lh m,h,hK⟩
theorem hl0 {lh:List av} {m:aJ} {k:Nat} {o o':av} (hk:lh[k]? = some o) (ho:o≠.hid):iq lh m (lh.set k o') m :=
 ⟨aJ.le_refl m,λj hj=>⟨by rw[HM,Ck (λe=>by subst e;rw[hk]at hj;cases hj;exact ho rfl)];exact hj,rfl⟩⟩
theorem Da.store {B:dj} {m:aJ} {lh:List av} {w:World} {K:ah->List av->Prop} {v:Value} {r:ah} {k:Nat} {cs:List ah} {ty:TypeId} {o':av} (hk:lh[k]? = some (.cells cs ty)) (h:ba B m (lh.set k o') w)
 (hr:CL m r v) (hK:K r (lh.set k o')):Da B m lh K v w :=
 ⟨r,m,_,hr,hl0 hk aD,h,hK⟩
theorem gM {B:dj} {m:aJ} {lh:List av} {w:World} {pl:Option Nat} {cs:List ah} {ty:TypeId} {vs:Array Value} {K:Nat->List av->Prop}
 (h:ba B m lh w) (y:aC m cs vs.toList) (hp:place pl lh (.cells cs ty) K) :
 ∃p m' lh',m' p=some w.heap.size/\iq lh m lh' m'/\ba B m' lh' { w with heap:=w.heap.push (.cells vs ty (0,0)) }/\K p lh':=by
 cases pl with
 |none=>obtain⟨N,Q⟩:=h.push (ty:=ty) y;refine⟨_,_,_,aD,⟨Q,λk hk=>?_⟩,N,hp⟩;have XD:k<lh.length:=(List.getElem?_eq_some_iff.1 hk).1;exact⟨by rw[Ht XD];exact hk,by simp[OH XD]⟩
 |some p=>
   obtain⟨hd,hK⟩:=hp;obtain⟨N,Q⟩:=h.put (p:=p) (lh':=lh.set p (.cells cs ty)) (ty:=ty) (h.dead p hd) (by simp[(List.getElem?_eq_some_iff.1 hd).1]) (λk hk=>by simp[hk.symm]) y;refine⟨_,_,_,aD,⟨Q,λk hk=>?_⟩,N,hK⟩;have Yf:k≠p:=λe=>by subst e;rw[hd]at hk;cases hk
   exact⟨by rw[HM,Ck Yf.symm];exact hk,by simp[Yf]⟩
end Go.Sx
namespace Go.Sx
def wm:TypeDesc->Bool
 |.struct _|.array _ _=>true|_=>false
def oM (P:Program) (t:TypeId):Option (Option Nat) :=
 match P.underlying t,P.info? t with
 |some d,some i=>some (if wm d then some i.size else none)|_,_=>none
def pg (P:Program) (t:TypeId):Option (Array Value):=((P.info? t).bind (·.zero)).map (·.cells)
def d7 (P:Program) (t:TypeId):Option Nat:=(P.info? t).map (·.size)
def F72 (P:Program) (fs:Array Field):Option (List (Nat×Nat)):=fs.toList.mapM λf=>(d7 P f.type).map λn=>(f.offset,n)
def nA (pls:Nat->Option (Nat×Nat)):List (Nat×Operand)->Option (List (Nat×Nat×fM))
 |[]=>some []
 |(i,x)::ps=>match pls i,nA pls ps with|some (off,n),some l=>some ((off,n,be x)::l)|_,_=>none
def tg:Operand->Bool
 |.const (.slice none 0 0)=>true|_=>false
def K17 (P:Program) (b:Builtin) (ts:Array TypeId) (xs:List Operand):Option kl :=
 match b,ts.toList,xs with
 |.len,[t],[x]=>match P.underlying t with|some (.slice _)=>some (.len (be x))|some .string=>some (.lenT (be x))|some (.array n _)=>some (.lenA n)|_=>none
 |.max,_,x::At::xs=>some (.mm true (be x) ((At::xs).map be))|.min,_,x::At::xs=>some (.mm false (be x) ((At::xs).map be))
 |.append,[t,u],[s,x]=>match P.underlying t,P.underlying u with
   |some (.slice e),some (.slice _)=>match P.info? e with
     |some i=>match i.zero with
       |some z=>if z.cells.size=i.size&&z.cells.size !=0 then some (.app e i.size i.bytes (z.cells.toList.map bL) (be s) (be x)) else none
       |none=>none
     |none=>none
   |_,_=>none
 |.clear,[t],[x]=>match P.underlying t with
   |some (.slice e)=>match P.info? e with
     |some i=>match i.zero with
       |some z=>if z.cells.size=i.size&&z.cells.toList.all lG then some (.clr i.size (z.cells.toList.map bL) (be x)) else none
       |none=>none
     |none=>none
   |_=>none
 |_,_,_=>none
def Gu (P:Program) (t:TypeId) (x At:Operand):Option kl :=
 match x,At,P.underlying t with
 |.const (.int _ n),.const (.int _ c),some (.slice e)=>match P.info? e with
   |some i=>match i.zero with
     | some z=>if n=c&&0<n&&n<=1000&&(i.bytes:Int)*n<=2 ^ 40&&i.size != 0 then
        some (.mks e n.toNat (((List.range (n.toNat*i.size)).map (z.cells[· % z.cells.size]!)).map bL)) else none
     |none=>none
   |none=>none
 |_,_,_=>none
def Gv:kl:=.ext (.k (.int .i64 0)) 0
def ip (P:Program) (BD:List TypeId) (o:Oper):Option kl :=
 match o.op with
 |.move x=>some (.mov (be x))
 |.assign x=>some (.mov (be x))
 |.pick c a b=>some (.pick (be c) (be a) (be b))
 |.alloc t=>(pg P t).map λz=>.new t (z.toList.map bL)
 |.box t x=>some (.box t (be x))
 |.build t ps=>match P.underlying t,pg P t with
   |some (.struct fs),some z=>match F72 P fs with
     |some pls=>(nA (pls[·]?) ps.toList).map (.agg (z.toList.map bL))
     |none=>none
   |some (.array _ e),some z=>match d7 P e with
     |some n=>(nA (λi=>some (i*n,n)) ps.toList).map (.agg (z.toList.map bL))
     |none=>none
   |_,_=>none
 |.buildSlice t len ps=>match P.underlying t with
   |some (.slice e)=>match d7 P e,pg P e with
     | some n,some z=>if len*n<=2 ^ 24&&(len*n != 0||z.size==0) then
        (nA (λi=>some (i*n,n)) ps.toList).map (.bsl e len (((List.range (len*n)).map (z[· % z.size]!)).map bL)) else if len*n=0 then(nA (λi=>some (i*n,n)) ps.toList).map (.bsl e len []) else none
     |_,_=>none
   |_=>none
 |.load t a=>match oM P t with
   |some (some n)=>some (.lds n (be a))
   |some none=>some (.ld (be a))
   |none=>none
 |.store t a x=>(d7 P t).map λn=>.st n (be a) (be x)
 |.nilCheck x=>some (.nz (be x))
 |.binOp op t x At _=>match op,P.underlying t with
   |.eql,some .bool=>some (.eqb false (be x) (be At))
   |.neq,some .bool=>some (.eqb true (be x) (be At))
   |.eql,some (.struct _)|.eql,some (.array _ _)=>if BD.contains t then(d7 P t).map λn=>.eqa false n (be x) (be At) else none
   |.neq,some (.struct _)|.neq,some (.array _ _)=>if BD.contains t then(d7 P t).map λn=>.eqa true n (be x) (be At) else none
   |op,some (.int _)|op,some .string=>some (.bin op (be x) (be At))
   |.eql,some (.slice _)=>if tg At then some (.isn false (be x)) else none
   |.neq,some (.slice _)=>if tg At then some (.isn true (be x)) else none
   |_,_=>none
 |.unOp op _ x=>some (.un op (be x))
 |.convert s d x=>match P.underlying s,P.underlying d with
   |some _,some (.int k)=>some (.conv k (be x))
   |_,_=>none
 |.makeFunc f xs ys=>some (.mkf f (xs.toList.map be) (ys.toList.map be))
 |.fieldAddr t x i=>match P.underlying t with
   |some (.struct fs)=>match fs[i]? with
     |some f=>match d7 P f.type with
       |some n=>if n=0 then none else some (.fa f.offset (be x))
       |none=>none
     |none=>none
   |_=>none
 |.field t x i=>match P.underlying t with
   |some (.struct fs)=>match fs[i]? with
     |some f=>(oM P f.type).map λn=>.fld f.offset n (be x)
     |none=>none
   |_=>none
 |.indexAddr t x ix=>match P.underlying t with
   |some (.array n e)=>(d7 P e).map λs=>.iaA n s (be x) (be ix)
   |some (.slice e)=>(d7 P e).map λs=>.iaS s (be x) (be ix)
   |_=>none
 |.index t x ix=>match P.underlying t with
   |some (.array n e)=>match d7 P e,oM P e with
     |some s,some a=>some (.ixA n s a (be x) (be ix))
     |_,_=>none
   |some .string=>some (.ixS (be x) (be ix))
   |_=>none
 |.extract x i=>some (.ext (be x) i)
 |.slice t x lo hi mx=>if mx.isSome&&!hi.isSome then none else match P.underlying t with
   |some (.slice e)=>(d7 P e).map λs=>.slS s (be x) (lo.map be) (hi.map be) (mx.map be)
   |some (.array n e)=>(d7 P e).map λs=>.slA n s (be x) (lo.map be) (hi.map be) (mx.map be)
   |some .string=>if mx.isSome then none else some (.slT (be x) (lo.map be) (hi.map be))
   |_=>none
 |.makeSlice t x At=>Gu P t x At
 |.makeInterface ..=>some Gv
 |.panic _=>some Gv
 |.call c=>match c.callee with
   |.value (.func f)=>match P.funcs[f]? with
     |some fn => if fn.name == "runtime.NumGoroutine" || fn.body.isNone then none else some (.call f (c.args.toList.map be))
     |none=>none
   |.value x=>some (.callv (be x) (c.args.toList.map be))
   |.builtin b=>K17 P b c.argTypes c.args.toList
   |_=>none
 |_=>none
section
variable {P:Program} {B:dj} {Uc:FuncId->bT} {m:aJ} {sl:List ah} {lh:List av} {w:World} {a:Act} {o:Oper} {pl:Option Nat} {K:ah->List av->Prop}
theorem aK {t:TypeId} {d:TypeDesc} (h:P.underlying t=some d) (w:World):(underlying t).run P w=.ok d w:=by unfold underlying;rw[ac (a:=P) (w':=w) rfl];simp only[h];rfl
theorem dX {t:TypeId} {i:TypeInfo} (h:P.info? t=some i) (w:World):(typeInfo t).run P w=.ok i w:=by unfold typeInfo;rw[ac (a:=P) (w':=w) rfl];have h':P.toTables.info? t=some i:=h;simp only[h'];rfl
theorem run_sizeOf {t:TypeId} {n:Nat} (h:d7 P t=some n) (w:World):(sizeOf t).run P w=.ok n w:=by simp[d7,HG]at h;obtain⟨i,hi,rfl⟩:=h;unfold sizeOf;rw[ac (dX hi w)];rfl
theorem iw {t:TypeId} {z:Array Value} (h:pg P t=some z) (w:World):∃v,v.cells=z/\(zeroValue t).run P w=.ok v w:=by simp only[pg,HG,Option.bind_eq_some_iff]at h;obtain⟨v,⟨i,hi,y⟩,rfl⟩:=h;refine⟨v,rfl,?_⟩;unfold zeroValue;rw[ac (dX hi w)];simp only[y];rfl
theorem jK {t:TypeId} {d:TypeDesc} (h:P.underlying t=some d) (w:World):(isAgg t).run P w=.ok (wm d) w:=by unfold isAgg;rw[ac (aK h w)];cases d<;>rfl
theorem jO {t:TypeId} {n:Option Nat} (h:oM P t=some n):∃ d,P.underlying t=some d/\((wm d=true/\∃ k,n=some k/\d7 P t=some k)∨(wm d=false/\n=none)):=by
 unfold oM at h;split at h
 ·rename_i d i hd hi
  cases h;refine⟨d,hd,?_⟩;cases e:wm d
  ·exact .inr ⟨rfl,rfl⟩
  ·exact .inl ⟨rfl,i.size,aD,by simp[d7,hi]⟩
 ·cases h
theorem DZ {x:Operand} (ho:o.op=.move x∨o.op=.assign x) (hs:aC m sl a.tmps.toList) (h:ba B m lh w) (y:db B.w0 Uc sl lh pl K (.mov (be x))):cQ P o a w (Da B m lh K) :=
 .inl ⟨a.eval x,w,by rcases ho with ho|ho<;>(simp only[execOp,ho];rfl),Da.same h (aV hs x) y⟩
theorem im {m:aJ} {b:Bool} {v:Value} (h:CL m (.bool b) v):v=.bool b:=by simpa[CL] using h
theorem fy {m:aJ} {k:IntKind} {n:Int} {v:Value} (h:CL m (.int k n) v):v=.int k n:=by simpa[CL] using h
theorem nf {m:aJ} {s:ByteArray} {v:Value} (h:CL m (.str s) v):v=.string s:=by simpa[CL] using h
theorem agE {c x At:Operand} (ho:o.op=.pick c x At) (hs:aC m sl a.tmps.toList) (h:ba B m lh w) (y:db B.w0 Uc sl lh pl K (.pick (be c) (be x) (be At))):cQ P o a w (Da B m lh K):=by
 have hc:=aV hs c;simp[db]at y;split at y
 ·rename_i t ht
  rw[ht]at hc;have hc:=im hc;refine .inl ⟨if t then a.eval x else a.eval At,w,?_,?_⟩
  ·simp only[execOp,ho,hc,asBool];rfl
  ·cases t
   ·exact Da.same h (aV hs At) (y.2 rfl)
   ·exact Da.same h (aV hs x) (y.1 rfl)
 ·exact y.elim
theorem R84 {t:TypeId} {v:Value} (w:World):(newVar t v).run P w=.ok ⟨w.heap.size,0,none⟩ { w with heap:=w.heap.push (.cells v.cells t (0,0)) }:=rfl
theorem jR {t:TypeId} {c:Array Value} (w:World):(newRow t c).run P w=.ok ⟨w.heap.size,0,none⟩ { w with heap:=w.heap.push (.cells c t (0,0)) }:=rfl
theorem alR {t:TypeId} {z:Array Value} (ho:o.op=.alloc t) (hz:pg P t=some z) (h:ba B m lh w) (y:db B.w0 Uc sl lh pl K (.new t (z.toList.map bL))):cQ P o a w (Da B m lh K):=by
 let ⟨v,gy,hrun⟩:=iw hz w
 simp[db]at y
 let ⟨p,m',lh',N,Q,h3,h4⟩:=gM h (vs:=z) (cj m z.toList) y
 refine a6 (s:=Instr.alloc t true (.tuple #[])) (v:=.pointer (some ⟨w.heap.size,0,none⟩)) (by simp[execOp,ho]) ?_ ⟨_,m',lh',?_,Q,h3,h4⟩
 ·unfold Instr.alloc;rw[ac hrun];show(do pure (Value.pointer (some (← newVar t v))):Sem Value).run P w=_;rw[ac (R84 w),gy];rfl
 ·simp only[CL];exact⟨_,rfl,_,N,rfl⟩
theorem by0 {t:TypeId} {x:Operand} (ho:o.op=.box t x) (hs:aC m sl a.tmps.toList) (h:ba B m lh w) (y:db B.w0 Uc sl lh pl K (.box t (be x))):cQ P o a w (Da B m lh K):=by
 simp[db]at y
 let ⟨hf,y⟩:=y
 let ⟨hc,_⟩:=lQ (aV hs x) hf
 let ⟨p,m',lh',N,Q,h3,h4⟩:=gM h hc y
 refine a6 (s:=Instr.box t (a.eval x)) (v:=.pointer (some ⟨w.heap.size,0,none⟩)) (by simp[execOp,ho]) ?_ ⟨_,m',lh',?_,Q,h3,h4⟩
 ·unfold Instr.box;rw[ac (R84 w)];rfl
 ·simp only[CL];exact⟨_,rfl,_,N,rfl⟩
theorem adE (off:Nat):∀ (l:List Value) (j:Nat) (cs:Array Value),((l.zipIdx j).foldl (λ(cs:Array Value) (p:Value×Nat)=>cs.setIfInBounds (off+p.2) p.1) cs).toList =
 (l.foldl (λ(acc:List Value×Nat) v=>(acc.1.set acc.2 v,acc.2+1)) (cs.toList,off+j)).1
 |[],_,_=>rfl
 |v::l,j,cs=>by simp[List.zipIdx_cons,List.foldl_cons];rw[adE off l (j+1)];simp[S6];rfl
theorem Bg {m:aJ}:∀ (xs:List ah) (us:List Value) (cs:List ah) (vs:List Value) (off:Nat),aC m xs us->aC m cs vs ->
 aC m (wr cs off xs) (us.foldl (λ(acc:List Value×Nat) v=>(acc.1.set acc.2 v,acc.2+1)) (vs,off)).1
 |[],us,cs,vs,off,hx,hc=>by simp[aC]at hx;subst hx;exact hc
 |x::xs,us,cs,vs,off,hx,hc=>by simp[aC]at hx;obtain⟨u,us,rfl,N,Q⟩:=hx;simp[wr,List.foldl_cons];exact Bg xs us _ _ _ Q (jH off hc N)
theorem iX {pls:Nat->Option (Nat×Nat)} (hs:aC m sl a.tmps.toList):∀ (ps:List (Nat×Operand)) (qs:List (Nat×Nat×fM)) (z:List ah) (zs:Array Value) (K:List ah->Prop),
 nA pls ps=some qs->aC m z zs.toList->parts sl qs z K->∃cs vs,Instr.fill pls zs (ps.map λ(i,x)=>(i,a.eval x))=some vs/\aC m cs vs.toList/\K cs
 |[],qs,z,zs,K,hc,hz,hp=>by simp[nA,H2]at hc;subst hc;exact⟨z,zs,by simp[Instr.fill],hz,hp⟩
 |(i,x)::ps,qs,z,zs,K,hc,hz,hp=>by
   simp[nA]at hc;split at hc
   ·rename_i off n l Yl hl
    cases hc;simp[parts]at hp
    let ⟨hf,hn,Y3,hp⟩:=hp
    let ⟨N,_⟩:=lQ (aV hs x) hf
    have pr:=cB N;have wN:=cB hz;simp[P3]at pr wN;have hw:=Bg _ _ _ _ off N hz;rw[show off=off+0 from rfl,← adE off _ 0 zs]at hw
    let ⟨cs,vs,h3,h4,h5⟩:=iX hs ps l (wr z off (arg sl (be x)).cells) _ K hl hw hp
    refine⟨cs,vs,?_,h4,h5⟩;simp only[Ja,Instr.fill,Yl];rw[Ck (by simp;omega)];rw[← h3];congr 1;rw[← Array.foldl_toList,Array.toList_zipIdx]
   ·cases hc
theorem F70:∀ (fs:List Field) (pls:List (Nat×Nat)),(fs.mapM λf=>(d7 P f.type).map λn=>(f.offset,n))=some pls->∀ w,
 (fs.mapM (m:=Sem) λf=>do pure (f.offset,← sizeOf f.type)).run P w=.ok pls w
 |[],pls,h,w=>by simp at h;subst h;rfl
 |f::fs,pls,h,w=>by simp only[PU,Option.pure_def,Option.bind_eq_bind,Option.bind_eq_some_iff,HG,H2]at h;obtain⟨a,⟨n,hn,rfl⟩,l,hl,rfl⟩:=h;simp only[PU];rw[ac (a:=(f.offset,n)) (w':=w) (by rw[ac (run_sizeOf hn w)];rfl)];rw[ac (F70 fs l hl w)];rfl
end
end Go.Sx
namespace Go.Sx
section
variable {P:Program} {B:dj} {Uc:FuncId->bT} {m:aJ} {sl:List ah} {lh:List av} {w:World} {a:Act} {o:Oper} {pl:Option Nat} {K:ah->List av->Prop}
theorem pZ {cs:List ah} {v:Value} (h:CL m (.agg cs) v):∃vs,v=.agg vs/\aC m cs vs.toList:=by simpa[CL] using h
theorem iL {p:Option hU} {v:Value} (h:CL m (.ptr p) v):∃X1,v=.pointer X1/\dR m p X1:=by simpa[CL] using h
theorem fW {p:Option hU} {n c:Nat} {v:Value} (h:CL m (.slice p n c) v):∃X1,v=.slice X1 n c/\dR m p X1:=by simpa[CL] using h
theorem abe {p:hU} {X1:Option Addr} (h:dR m (some p) X1):∃ a,X1=some a/\dR m (some p) (some a):=by
 cases p with
 |l k off=>obtain⟨b,hb,rfl⟩:=h;exact⟨_,rfl,b,hb,rfl⟩|g a=>simp[dR]at h;subst h;exact⟨a,rfl,rfl⟩
theorem sl1 {fs:Array Field} {pls:List (Nat×Nat)} (h:F72 P fs=some pls) (w:World) :
 (fs.mapM (m:=Sem) λf=>do pure (f.offset,← sizeOf f.type)).run P w=.ok pls.toArray w:=by
 have N:=F70 (P:=P) fs.toList pls h w;have e:(fs.mapM (m:=Sem) λf=>do pure (f.offset,← sizeOf f.type))=(do pure (← fs.toList.mapM (m:=Sem) λf=>do pure (f.offset,← sizeOf f.type)).toArray):=by rw[Array.mapM_eq_mapM_toList];rfl
 rw[e,ac N];rfl
theorem afn {t:TypeId} {ps:Array (Nat×Operand)} {i:kl} {BD:List TypeId} (ho:o.op=.build t ps) (hc:ip P BD o=some i) (hs:aC m sl a.tmps.toList) (h:ba B m lh w)
 (y:db B.w0 Uc sl lh pl K i):cQ P o a w (Da B m lh K):=by
 simp[ip,ho]at hc;split at hc
 ·rename_i fs z hu hz
  split at hc
  ·rename_i pls Yl
   simp[HG]at hc;obtain⟨qs,hq,rfl⟩:=hc;simp[db]at y
   let ⟨cs,vs,N,Q,h3⟩:=iX hs ps.toList qs _ z _ hq (cj m z.toList) y
   let ⟨v,gy,hrun⟩:=iw hz w
   refine a6 (s:=Instr.build t (ps.map λ(i,x)=>(i,a.eval x))) (v:=.agg vs) (by simp only[execOp,ho]) ?_ (Da.same h (by simp only[CL];exact⟨_,rfl,Q⟩) h3);unfold Instr.build;rw[ac hrun,ac (aK hu w)];dsimp only
   rw[ac (sl1 Yl w)];have e:(λx:Nat=>pls.toArray[x]?)=(λx:Nat=>pls[x]?):=by funext x;simp
   simp only[e,Mb,gy,N];rfl
  ·cases hc
 ·rename_i n e z hu hz
  split at hc
  ·rename_i sz YD
   simp[HG]at hc;obtain⟨qs,hq,rfl⟩:=hc;simp[db]at y
   let ⟨cs,vs,N,Q,h3⟩:=iX hs ps.toList qs _ z _ hq (cj m z.toList) y
   let ⟨v,gy,hrun⟩:=iw hz w
   refine a6 (s:=Instr.build t (ps.map λ(i,x)=>(i,a.eval x))) (v:=.agg vs) (by simp only[execOp,ho]) ?_ (Da.same h (by simp only[CL];exact⟨_,rfl,Q⟩) h3);unfold Instr.build;rw[ac hrun,ac (aK hu w)];dsimp only
   rw[ac (run_sizeOf YD w)];simp only[Mb,gy,N];rfl
  ·cases hc
 ·cases hc
theorem if5 {t:TypeId} {x:Operand} {i:kl} {BD:List TypeId} (ho:o.op=.load t x) (hc:ip P BD o=some i) (hs:aC m sl a.tmps.toList) (h:ba B m lh w)
 (y:db B.w0 Uc sl lh pl K i):cQ P o a w (Da B m lh K):=by
 simp[ip,ho]at hc;have hx:=aV hs x;split at hc
 ·rename_i n hn
  cases hc;simp[db]at y;split at y
  ·rename_i p hp
   rw[hp]at hx
   let ⟨X1,hq,YY⟩:=iL hx
   let ⟨cs,Zz,hK⟩:=y
   obtain⟨ad,vs,rfl,hrun,hr⟩:=rB (P:=P) h YY Zz
   let ⟨d,hd,ax⟩:=jO hn
   rcases ax with ⟨N,k,hk,Q⟩|⟨_,hk⟩
   ·cases hk;refine a6 (s:=Instr.loadAt t (a.eval x)) (v:=.agg vs) (by simp only[execOp,ho]) ?_ (Da.same h (by simp only[CL];exact⟨_,rfl,hr⟩) hK);unfold Instr.loadAt;rw[hq,ac (a:=ad) (w':=w) rfl];unfold loadVar;rw[ac (jK hd w),N];simp only[J6];rw[ac (run_sizeOf Q w),ac hrun];rfl
   ·cases hk
  ·exact y.elim
 ·rename_i hn
  cases hc;simp[db]at y;split at y
  ·rename_i p hp
   rw[hp]at hx
   let ⟨X1,hq,YY⟩:=iL hx
   let ⟨r,Zz,hK⟩:=y
   obtain⟨ad,v,rfl,hrun,hr⟩:=Am h YY Zz
   let ⟨d,hd,ax⟩:=jO hn
   rcases ax with ⟨_,k,hk,_⟩|⟨N,_⟩
   ·cases hk
   ·refine a6 (s:=Instr.loadAt t (a.eval x)) (v:=v) (by simp[execOp,ho]) ?_ (Da.same h hr hK);unfold Instr.loadAt;rw[hq,ac (a:=ad) (w':=w) rfl];unfold loadVar;rw[ac (jK hd w),N];exact vk hrun
  ·exact y.elim
 ·cases hc
theorem aaU {t:TypeId} {x At:Operand} {n:Nat} (ho:o.op=.store t x At) (hn:d7 P t=some n) (hs:aC m sl a.tmps.toList) (h:ba B m lh w)
 (y:db B.w0 Uc sl lh pl K (.st n (be x) (be At))):cQ P o a w (Da B m lh K):=by
 have hx:=aV hs x;simp[db]at y;split at y
 ·rename_i k off hp
  rw[hp]at hx
  let ⟨X1,hq,YY⟩:=iL hx
  obtain⟨b,hb,rfl⟩:=YY
  let ⟨cs,ty,hk,hf,hl,Y3,hK⟩:=y
  let ⟨Zk,oB⟩:=lQ (aV hs At) hf
  let ⟨w',hrun,hrel⟩:=ba.stores (P:=P) (off:=off) hb (arg sl (be At)).cells _ cs lh w 0 h hk I Zk oB
  refine aeA (s:=Instr.storeAt t (a.eval x) (a.eval At)) (w':=w') (by simp[execOp,ho]) ?_ (Da.store (r:=.tup []) hk hrel (by simp[CL,aC,undef]) hK);unfold Instr.storeAt;rw[hq,ac (a:=(⟨b,off,none⟩:Addr)) (w':=w) rfl];unfold storeVar;rw[ac (run_sizeOf hn w)];have pr:=cB Zk;simp[P3]at pr;rw[Ck I];exact hrun
 ·exact y.elim
theorem nc1 {x:Operand} (ho:o.op=.nilCheck x) (hs:aC m sl a.tmps.toList) (h:ba B m lh w) (y:db B.w0 Uc sl lh pl K (.nz (be x))):cQ P o a w (Da B m lh K):=by
 have hx:=aV hs x;simp[db]at y;split at y
 ·rename_i p hp
  rw[hp]at hx
  let ⟨X1,hq,YY⟩:=iL hx
  obtain⟨ad,rfl,a8⟩:=abe YY;exact .inl ⟨_,w,by simp only[execOp,ho,hq];rfl,Da.same h (by simp only[CL];exact⟨_,rfl,a8⟩) y⟩
 ·rename_i f xs ys hp
  rw[hp]at hx;have Yr:=hx;simp[CL]at Yr
  let ⟨us,vs,hq,_⟩:=Yr
  exact .inl ⟨_,w,by simp[execOp,ho,hq];rfl,Da.same h (by rw[hq]at hx;exact hx) y⟩
 ·exact y.elim
theorem adj {op:BinOp} {t:TypeId} {x At:Operand} {k:IntKind} {n:Int} {v:Value} (w:World):(eqGuard op t x At (.int k n) v).run P w=.ok () w:=by cases op<;>rfl
theorem ada {op:BinOp} {t:TypeId} {x At:Operand} {s:ByteArray} {v:Value} (w:World):(eqGuard op t x At (.string s) v).run P w=.ok () w:=by cases op<;>rfl
theorem tri {op:BinOp} {t:TypeId} {x At:Operand} {b:Bool} {v:Value} (w:World):(eqGuard op t x At (.bool b) v).run P w=.ok () w:=by cases op<;>rfl
theorem vI {k:IntKind} {n:Int}:CL m (.int k n) (.int k n):=by simp[CL]
theorem vB {b:Bool}:CL m (.bool b) (.bool b):=by simp[CL]
theorem SUn {s:ByteArray}:CL m (.str s) (.string s):=by simp[CL]
theorem aek {op:BinOp} {k:IntKind} {x At:Int} {t:TypeId} {K':ah->Prop} (w:World) (h:rl op k x At K'):∃ r v,CL m r v/\K' r/\(binOp op t (.int k x) (.int k At)).run P w=.ok v w:=by
 cases op<;>simp[rl]at h<;>try exact h.elim
 case add=>exact⟨_,_,vI,h,by simp[binOp,Op.intArith]⟩
 case sub=>exact⟨_,_,vI,h,by simp[binOp,Op.intArith]⟩
 case mul=>exact⟨_,_,vI,h,by simp[binOp,Op.intArith]⟩
 case quo=>exact⟨_,_,vI,h.2,by simp[binOp,Op.intDiv,h.1]⟩
 case rem=>exact⟨_,_,vI,h.2,by simp[binOp,Op.intDiv,h.1]⟩
 case eql=>exact⟨_,_,vB,h,by simp[binOp,Op.intCmp]⟩
 case neq=>exact⟨_,_,vB,h,by simp[binOp,Op.intCmp]⟩
 case lss=>exact⟨_,_,vB,h,by simp[binOp,Op.intCmp]⟩
 case leq=>exact⟨_,_,vB,h,by simp[binOp,Op.intCmp]⟩
 case gtr=>exact⟨_,_,vB,h,by simp[binOp,Op.intCmp]⟩
 case geq=>exact⟨_,_,vB,h,by simp[binOp,Op.intCmp]⟩
 case and=>exact⟨_,_,vI,h,by simp only[binOp,ne_eq,QE,IG,intBits_and];rfl⟩
 case or=>exact⟨_,_,vI,h,by simp only[binOp,ne_eq,QE,IG,intBits_or];rfl⟩
 case xor=>exact⟨_,_,vI,h,by simp only[binOp,ne_eq,QE,IG,intBits_xor];rfl⟩
 case shl=>exact⟨_,_,vI,h.2,by simp only[binOp,Op.shift];rw[Ck (Int.not_lt.2 h.1)];rfl⟩
 case shr=>exact⟨_,_,vI,h.2,by simp only[binOp,Op.shift];rw[Ck (Int.not_lt.2 h.1)];rfl⟩
theorem adx {op:BinOp} {x At:ByteArray} {t:TypeId} {K':ah->Prop} (w:World) (h:zJ op x At K'):∃ r v,CL m r v/\K' r/\(binOp op t (.string x) (.string At)).run P w=.ok v w:=by
 cases op<;>simp only[zJ]at h<;>try exact h.elim
 case eql=>exact⟨_,_,vB,h,by simp only[binOp,Op.stringOp];rfl⟩
 case neq=>exact⟨_,_,vB,h,by simp only[binOp,Op.stringOp];rfl⟩
 case add=>exact⟨_,_,SUn,h.2,by simp only[binOp,Op.stringOp];rw[Ck (Int.not_lt.2 h.1)];rfl⟩
theorem GA {op:BinOp} {t u:TypeId} {x At:Operand} (ho:o.op=.binOp op t x At u) (hs:aC m sl a.tmps.toList) (h:ba B m lh w) (y:db B.w0 Uc sl lh pl K (.bin op (be x) (be At))):cQ P o a w (Da B m lh K):=by
 have hx:=aV hs x;have hy:=aV hs At;simp[db,MB]at y;split at y
 ·rename_i k p k' X1 hp hq
  rw[hp]at hx;rw[hq]at hy;have hx:=fy hx;have hy:=fy hy
  let ⟨rfl,y⟩:=y
  let ⟨r,v,Q,h3,N⟩:=aek (P:=P) (t:=t) (m:=m) w y
  refine a6 (s:=do eqGuard op t x At (a.eval x) (a.eval At);binOp op t (a.eval x) (a.eval At)) (v:=v) (by simp[execOp,ho]) ?_ (Da.same h Q h3);rw[hx,hy,ac (adj w)];exact N
 ·rename_i p X1 hp hq
  rw[hp]at hx;rw[hq]at hy;have hx:=nf hx;have hy:=nf hy
  let ⟨r,v,Q,h3,N⟩:=adx (P:=P) (t:=t) (m:=m) w y
  refine a6 (s:=do eqGuard op t x At (a.eval x) (a.eval At);binOp op t (a.eval x) (a.eval At)) (v:=v) (by simp[execOp,ho]) ?_ (Da.same h Q h3);rw[hx,hy,ac (ada w)];exact N
 ·exact y.elim
end
end Go.Sx
namespace Go.Sx
section
variable {P:Program} {B:dj} {Uc:FuncId->bT} {m:aJ} {sl:List ah} {lh:List av} {w:World} {a:Act} {o:Oper} {pl:Option Nat} {K:ah->List av->Prop}
theorem sl2 (n:Nat) (z:Array Value):((Array.range n).map (z[· % z.size]!)).toList=(List.range n).map (z[· % z.size]!):=by simp
theorem alV {t:TypeId} {len:Nat} {ps:Array (Nat×Operand)} {i:kl} {BD:List TypeId} (ho:o.op=.buildSlice t len ps) (hc:ip P BD o=some i) (hs:aC m sl a.tmps.toList) (h:ba B m lh w)
 (y:db B.w0 Uc sl lh pl K i):cQ P o a w (Da B m lh K):=by
 simp only[ip,ho]at hc;split at hc
 ·rename_i e hu
  split at hc
  ·rename_i n z hn hz
   let ⟨v,gy,hrun⟩:=iw hz w
   split at hc
   ·rename_i hcond
    simp only[DD,IJ,MX,bne_iff_ne,K8]at hcond;simp only[HG]at hc;obtain⟨qs,hq,rfl⟩:=hc;simp only[db]at y
    let ⟨cs,vs,N,Q,h3⟩:=iX hs ps.toList qs _ ((Array.range (len*n)).map (z[· % z.size]!)) _ hq (by rw[sl2];exact cj m _) y
    let ⟨p,m',lh',g1,g2,g3,g4⟩:=gM h Q h3
    refine a6 (s:=Instr.buildSlice t len (ps.map λ(i,x)=>(i,a.eval x))) (v:=.slice (some ⟨w.heap.size,0,none⟩) len len) (by simp only[execOp,ho]) ?_
     ⟨_,m',lh',by simp only[CL];exact⟨_,rfl,_,g1,rfl⟩,g2,g3,g4⟩
    unfold Instr.buildSlice;rw[ac (aK hu w)];dsimp only
    rw[ac (run_sizeOf hn w),Ck I];by_cases h2:len*n=0
    ·rw[DL h2]
     have uL:z.size=0:=hcond.2.resolve_left (λc=>c h2);have hze:z=#[]:=Array.eq_empty_of_size_eq_zero uL;subst hze;simp only[pure_bind,Mb];simp only[h2]at N ⊢;rw[N];dsimp only
     rw[ac (jR w)];rfl
    ·rw[Ck h2];rw[ac hrun,pure_bind,gy];simp only[Mb,N];rw[ac (jR w)];rfl
   ·split at hc
    ·rename_i h2
     simp only[HG]at hc;obtain⟨qs,hq,rfl⟩:=hc;simp only[db]at y
     let ⟨cs,vs,N,Q,h3⟩:=iX hs ps.toList qs [] #[] _ hq (by simp[aC]) y
     let ⟨p,m',lh',g1,g2,g3,g4⟩:=gM h Q h3
     refine a6 (s:=Instr.buildSlice t len (ps.map λ(i,x)=>(i,a.eval x))) (v:=.slice (some ⟨w.heap.size,0,none⟩) len len) (by simp only[execOp,ho]) ?_
      ⟨_,m',lh',by simp only[CL];exact⟨_,rfl,_,g1,rfl⟩,g2,g3,g4⟩
     unfold Instr.buildSlice;rw[ac (aK hu w)];dsimp only
     rw[ac (run_sizeOf hn w),Ck I,DL h2];simp only[pure_bind,Mb];have e:(Array.range (len*n)).map (λx=>(#[]:Array Value)[x % (#[]:Array Value).size]!)=#[]:=by rw[h2];simp[Array.range]
     rw[e,N];dsimp only
     rw[ac (jR w)];rfl
    ·cases hc
  ·cases hc
 ·cases hc
theorem Gc {t u:TypeId} {x At:Operand} {op:BinOp} {neg:Bool} (ZU:op=if neg then .neq else .eql) (ho:o.op=.binOp op t x At u) (hu:P.underlying t=some .bool) (hs:aC m sl a.tmps.toList) (h:ba B m lh w)
 (y:db B.w0 Uc sl lh pl K (.eqb neg (be x) (be At))):cQ P o a w (Da B m lh K):=by
 have hx:=aV hs x;have hy:=aV hs At;simp[db]at y;split at y
 ·rename_i p X1 hp hq
  rw[hp]at hx;rw[hq]at hy;have hx:=im hx;have hy:=im hy;refine a6 (s:=do eqGuard op t x At (a.eval x) (a.eval At);binOp op t (a.eval x) (a.eval At)) (by simp[execOp,ho]) ?_ (Da.same h vB y);rw[hx,hy,ac (tri w)];have he:(Op.equal t (.bool p) (.bool X1)).run P w=.ok (p==X1) w:=by unfold Op.equal Op.maxDepth Op.equalIn;rw[ac (aK hu w)];rfl
  subst ZU;cases neg
  ·simp only[JN,IG,binOp];rw[ac he];rfl
  ·simp only[J6,binOp];rw[ac he];rfl
 ·exact y.elim
theorem tnF {op:BinOp} {t:TypeId} {x At:Operand} {X1:Option Addr} {n c:Nat} {v:Value} (w:World):(eqGuard op t x At (.slice X1 n c) v).run P w=.ok () w:=by unfold eqGuard;cases op<;>rfl
theorem Gl {t u e:TypeId} {x At:Operand} {op:BinOp} {neg:Bool} (ZU:op=if neg then .neq else .eql) (ho:o.op=.binOp op t x At u) (hu:P.underlying t=some (.slice e)) (hy:tg At=true) (hs:aC m sl a.tmps.toList) (h:ba B m lh w)
 (y:db B.w0 Uc sl lh pl K (.isn neg (be x))):cQ P o a w (Da B m lh K):=by
 have hx:=aV hs x;have hyv:a.eval At=.slice none 0 0:=by
  unfold tg at hy;split at hy
  ·rfl
  ·cases hy
 simp only[db]at y;split at y
 ·rename_i p n c hp
  rw[hp]at hx
  let ⟨X1,hq,YY⟩:=fW hx
  have hpq':p.isNone=X1.isNone:=by
   cases p with
   |none=>simp only[dR]at YY;subst YY;rfl
   |some p=>
     cases p with
     |g a=>simp only[dR]at YY;subst YY;rfl|l k off=>obtain⟨b,_,rfl⟩:=YY;rfl
  rw[hpq']at y;refine a6 (s:=do eqGuard op t x At (a.eval x) (a.eval At);binOp op t (a.eval x) (a.eval At)) (by simp only[execOp,ho]) ?_ (Da.same h vB y);rw[hq,hyv,ac (tnF w)];have he:(Op.equal t (.slice X1 n c) (.slice none 0 0)).run P w=.ok X1.isNone w:=by unfold Op.equal Op.maxDepth Op.equalIn;rw[ac (aK hu w)];cases X1<;>rfl
  subst ZU;cases neg
  ·simp only[JN,IG,binOp];rw[ac he];rfl
  ·simp only[J6,binOp];rw[ac he];rfl
 ·exact y.elim
theorem tF {t u:TypeId} {x At:Operand} {op:BinOp} {neg:Bool} {n:Nat} (hn:d7 P t=some n) (ZU:op=if neg then .neq else .eql) (ho:o.op=.binOp op t x At u) (he:dc P t) (hs:aC m sl a.tmps.toList) (h:ba B m lh w)
 (y:db B.w0 Uc sl lh pl K (.eqa neg n (be x) (be At))):cQ P o a w (Da B m lh K):=by
 have hx:=aV hs x;have hy:=aV hs At;simp only[db]at y;split at y
 ·rename_i xs ys hp hq
  rw[hp]at hx;rw[hq]at hy
  let ⟨us,hux,Z3⟩:=pZ hx
  let ⟨vs,hvy,Y2⟩:=pZ hy
  let ⟨hlen,b,hb,hK⟩:=y
  refine a6 (s:=do eqGuard op t x At (a.eval x) (a.eval At);binOp op t (a.eval x) (a.eval At)) (by simp[execOp,ho]) ?_ (Da.same h vB hK);have hg:(eqGuard op t x At (.agg us) (.agg vs)).run P w=.ok () w:=by
   subst ZU;unfold eqGuard;cases neg
   ·simp only[JN,IG,Mq];rw[ac (a:=P) (w':=w) rfl,ac (a:=P) (w':=w) rfl,he.1];rfl
   ·simp only[J6,Mq,JN,IG];rw[ac (a:=P) (w':=w) rfl,ac (a:=P) (w':=w) rfl,he.1];rfl
  rw[hux,hvy,ac hg];have he2:=he.2 n hn xs ys us vs m b w hlen Z3 Y2 hb;subst ZU;cases neg
  ·simp only[JN,IG,binOp];rw[ac he2];rfl
  ·simp only[J6,binOp];rw[ac he2];rfl
 ·exact y.elim
theorem acG {op:UnOp} {t:TypeId} {x:Operand} (ho:o.op=.unOp op t x) (hs:aC m sl a.tmps.toList) (h:ba B m lh w) (y:db B.w0 Uc sl lh pl K (.un op (be x))):cQ P o a w (Da B m lh K):=by
 have hx:=aV hs x;simp only[db]at y;split at y
 ·rename_i k n hp;rw[hp]at hx;exact a6 (s:=Op.unary .neg (a.eval x)) (by simp only[execOp,ho]) (by rw[fy hx];rfl) (Da.same h vI y)
 ·rename_i b hp;rw[hp]at hx;exact a6 (s:=Op.unary .not (a.eval x)) (by simp[execOp,ho]) (by rw[im hx];rfl) (Da.same h vB y)
 ·exact y.elim
theorem aj0 {s d:TypeId} {ds:TypeDesc} {k:IntKind} {x:Operand} (ho:o.op=.convert s d x) (ZV:P.underlying s=some ds) (hd:P.underlying d=some (.int k)) (hs:aC m sl a.tmps.toList) (h:ba B m lh w)
 (y:db B.w0 Uc sl lh pl K (.conv k (be x))):cQ P o a w (Da B m lh K):=by
 have hx:=aV hs x
 simp[db]at y
 split at y
 ·rename_i k' n hp
  rw[hp]at hx
  refine a6 (s:=convert s d (a.eval x)) (by simp[execOp,ho]) ?_ (Da.same h vI y)
  rw[fy hx]
  unfold convert
  rw[ac (aK ZV w),ac (aK hd w)];rfl
 ·exact y.elim
theorem hk' {f:Fn} {xs ys:Array Operand} (ho:o.op=.makeFunc f xs ys) (hs:aC m sl a.tmps.toList) (h:ba B m lh w) (y:db B.w0 Uc sl lh pl K (.mkf f (xs.toList.map be) (ys.toList.map be))) :
 cQ P o a w (Da B m lh K):=by
 refine a6 (s:=Instr.makeFunc f (xs.map a.eval) (ys.map a.eval)) (by simp[execOp,ho]) rfl (Da.same h ?_ y);simp only[CL];exact⟨_,_,rfl,by rw[Mb];exact gF hs _,by rw[Mb];exact gF hs _⟩
theorem ie2 {t:TypeId} {x:Operand} {i:Nat} {fs:Array Field} {f:Field} {n:Nat} (ho:o.op=.fieldAddr t x i) (hu:P.underlying t=some (.struct fs)) (hf:fs[i]? = some f) (hn:d7 P f.type=some n) (a7:n≠0)
 (hs:aC m sl a.tmps.toList) (h:ba B m lh w) (y:db B.w0 Uc sl lh pl K (.fa f.offset (be x))):cQ P o a w (Da B m lh K):=by
 have hx:=aV hs x;simp[db]at y;split at y
 ·rename_i p hp
  rw[hp]at hx
  let ⟨X1,hq,YY⟩:=iL hx
  obtain⟨ad,rfl,a8⟩:=qm YY f.offset;refine a6 (s:=Instr.fieldAt t (a.eval x) i) (v:=.pointer (some (ad.add f.offset))) (by simp only[execOp,ho]) ?_ (Da.same h (by simp only[CL];exact⟨_,rfl,a8⟩) y);unfold Instr.fieldAt;rw[ac (aK hu w)];dsimp only
  rw[hf];dsimp only
  rw[hq,ac (a:=ad) (w':=w) rfl];unfold fieldPlace;rw[ac (a:=ad.add f.offset) (w':=w) (by rw[ac (run_sizeOf hn w),Ck a7];rfl)];rfl
 ·exact y.elim
theorem C67 {t:TypeId} {n:Nat} (h:oM P t=some (some n)) (cs:Array Value) (off:Nat) (w:World):(part t cs off).run P w=.ok (.agg (cs.extract off (off+n))) w:=by
 let ⟨d,hd,ax⟩:=jO h
 rcases ax with ⟨N,k,hk,Q⟩|⟨_,hk⟩
 ·cases hk;unfold part;rw[ac (jK hd w),N];simp only[J6];rw[ac (run_sizeOf Q w)];rfl
 ·cases hk
theorem C66 {t:TypeId} (h:oM P t=some none) (cs:Array Value) (off:Nat) {v:Value} (y:cs[off]? = some v) (w:World):(part t cs off).run P w=.ok v w:=by
 let ⟨d,hd,ax⟩:=jO h
 rcases ax with ⟨_,k,hk,_⟩|⟨N,_⟩
 ·cases hk
 ·unfold part;rw[ac (jK hd w),N];simp only[JN,IG,y];rfl
theorem C64 {cs:List ah} {vs:Array Value} (h:aC m cs vs.toList) (off n:Nat):aC m ((cs.drop off).take n) (vs.extract off (off+n)).toList:=by have:=fj n (fV off h);rw[Array.toList_extract];simpa[List.extract_eq_take_drop] using this
theorem hqa {t:TypeId} {x:Operand} {i:Nat} {fs:Array Field} {f:Field} {n:Option Nat} (ho:o.op=.field t x i) (hu:P.underlying t=some (.struct fs)) (hf:fs[i]? = some f) (hn:oM P f.type=some n)
 (hs:aC m sl a.tmps.toList) (h:ba B m lh w) (y:db B.w0 Uc sl lh pl K (.fld f.offset n (be x))):cQ P o a w (Da B m lh K):=by
 have hx:=aV hs x;simp[db]at y;split at y
 ·rename_i cs hp
  rw[hp]at hx
  let ⟨vs,hq,Y2⟩:=pZ hx
  have hrun:∀ {v:Value},(part f.type vs f.offset).run P w=.ok v w->(Instr.field t (a.eval x) i).run P w=.ok v w:=λhr=>by
   unfold Instr.field;rw[ac (aK hu w)];dsimp only
   rw[hf];dsimp only
   rw[hq,ac (a:=vs) (w':=w) rfl];exact hr
  cases n with
  |some n=>exact a6 (s:=Instr.field t (a.eval x) i) (by simp only[execOp,ho]) (hrun (C67 hn vs f.offset w)) (Da.same h (by simp only[CL];exact⟨_,rfl,C64 Y2 _ _⟩) y)
  |none=>
    let ⟨r,hr,hK⟩:=y
    let ⟨v,y,r9⟩:=ir _ Y2 hr
    exact a6 (s:=Instr.field t (a.eval x) i) (by simp[execOp,ho]) (hrun (C66 hn vs f.offset (by simpa using y) w)) (Da.same h r9 hK)
 ·exact y.elim
theorem aly {t:TypeId} {x ix:Operand} {n esz:Nat} {e:TypeId} (ho:o.op=.indexAddr t x ix) (hu:P.underlying t=some (.array n e)) (he:d7 P e=some esz) (hs:aC m sl a.tmps.toList) (h:ba B m lh w)
 (y:db B.w0 Uc sl lh pl K (.iaA n esz (be x) (be ix))):cQ P o a w (Da B m lh K):=by
 have hx:=aV hs x;have hy:=aV hs ix;simp[db]at y;split at y
 ·rename_i p k i hp hi
  rw[hp]at hx;rw[hi]at hy
  let ⟨X1,hq,YY⟩:=iL hx
  let ⟨N,Q,hK⟩:=y
  obtain⟨ad,rfl,a8⟩:=qm YY (i.toNat*esz);refine a6 (s:=Instr.indexAt t (a.eval x) (a.eval ix)) (by simp only[execOp,ho]) ?_ (Da.same h (v:=.pointer (some (ad.add (i.toNat*esz)))) (by simp only[CL];exact⟨_,rfl,a8⟩) hK);unfold Instr.indexAt;rw[fy hy,ac (a:=(k,i)) (w':=w) rfl,ac (aK hu w),hq];dsimp only
  rw[ac (a:=ad) (w':=w) rfl,pure_bind];dsimp only
  rw[ac (aK hu w)];dsimp only
  rw[DL ⟨N,Q⟩,ac (run_sizeOf he w)];rfl
 ·exact y.elim
theorem c66 {t:TypeId} {x ix:Operand} {esz:Nat} {e:TypeId} (ho:o.op=.indexAddr t x ix) (hu:P.underlying t=some (.slice e)) (he:d7 P e=some esz) (hs:aC m sl a.tmps.toList) (h:ba B m lh w)
 (y:db B.w0 Uc sl lh pl K (.iaS esz (be x) (be ix))):cQ P o a w (Da B m lh K):=by
 have hx:=aV hs x;have hy:=aV hs ix;simp[db]at y;split at y
 ·rename_i p n c k i hp hi
  rw[hp]at hx;rw[hi]at hy
  let ⟨X1,hq,YY⟩:=fW hx
  obtain⟨N,Q,p',rfl,hK⟩:=y;obtain⟨ad,rfl,a8⟩:=qm YY (i.toNat*esz);refine a6 (s:=Instr.indexAt t (a.eval x) (a.eval ix)) (by simp only[execOp,ho]) ?_ (Da.same h (v:=.pointer (some (ad.add (i.toNat*esz)))) (by simp only[CL];exact⟨_,rfl,a8⟩) hK);unfold Instr.indexAt;rw[fy hy,ac (a:=(k,i)) (w':=w) rfl,ac (aK hu w),hq];dsimp only
  rw[pure_bind];dsimp only
  rw[ac (aK hu w)];dsimp only
  rw[DL ⟨N,Q⟩,ac (run_sizeOf he w)];rfl
 ·exact y.elim
theorem hbn {t:TypeId} {x ix:Operand} {n esz:Nat} {e:TypeId} {sz:Option Nat} (ho:o.op=.index t x ix) (hu:P.underlying t=some (.array n e)) (he:d7 P e=some esz) (ha:oM P e=some sz)
 (hs:aC m sl a.tmps.toList) (h:ba B m lh w) (y:db B.w0 Uc sl lh pl K (.ixA n esz sz (be x) (be ix))):cQ P o a w (Da B m lh K):=by
 have hx:=aV hs x;have hy:=aV hs ix;simp[db]at y;split at y
 ·rename_i cs k i hp hi
  rw[hp]at hx;rw[hi]at hy
  let ⟨vs,hq,Y2⟩:=pZ hx
  let ⟨N,Q,hK⟩:=y
  have hrun:∀ {v:Value},(part e vs (i.toNat*esz)).run P w=.ok v w->(Instr.index t (a.eval x) (a.eval ix)).run P w=.ok v w:=λhr=>by
   unfold Instr.index;rw[fy hy,ac (a:=(k,i)) (w':=w) rfl,ac (aK hu w),hq];dsimp only
   rw[DL ⟨N,Q⟩,ac (run_sizeOf he w)];exact hr
  cases sz with
  |some sz=>exact a6 (s:=Instr.index t (a.eval x) (a.eval ix)) (by simp only[execOp,ho]) (hrun (C67 ha vs _ w)) (Da.same h (by simp only[CL];exact⟨_,rfl,C64 Y2 _ _⟩) hK)
  |none=>
    let ⟨r,hr,hK⟩:=hK
    let ⟨v,y,r9⟩:=ir _ Y2 hr
    exact a6 (s:=Instr.index t (a.eval x) (a.eval ix)) (by simp[execOp,ho]) (hrun (C66 ha vs _ (by simpa using y) w)) (Da.same h r9 hK)
 ·exact y.elim
theorem hno {t:TypeId} {x ix:Operand} (ho:o.op=.index t x ix) (hu:P.underlying t=some .string) (hs:aC m sl a.tmps.toList) (h:ba B m lh w)
 (y:db B.w0 Uc sl lh pl K (.ixS (be x) (be ix))):cQ P o a w (Da B m lh K):=by
 have hx:=aV hs x;have hy:=aV hs ix;simp only[db]at y;split at y
 ·rename_i s k i hp hi
  rw[hp]at hx;rw[hi]at hy
  let ⟨N,Q,hK⟩:=y
  refine a6 (s:=Instr.index t (a.eval x) (a.eval ix)) (by simp only[execOp,ho]) ?_ (Da.same h vI hK);unfold Instr.index;rw[fy hy,ac (a:=(k,i)) (w':=w) rfl,ac (aK hu w),nf hx];dsimp only
  have XD:i.toNat<s.size:=by omega
  rw[DL N];have e:s[i.toNat]? = some (s.data.toList.getD i.toNat 0):=by have hlt':i.toNat<s.data.size:=XD;rw[show s[i.toNat]? = some s[i.toNat] from by simp[XD]];congr 1;rw[S5,Array.getElem?_toList,Qs hlt'];rfl
  rw[e];rfl
 ·exact y.elim
theorem hey {x:Operand} {i:Nat} (ho:o.op=.extract x i) (hs:aC m sl a.tmps.toList) (h:ba B m lh w) (y:db B.w0 Uc sl lh pl K (.ext (be x) i)):cQ P o a w (Da B m lh K):=by
 have hx:=aV hs x;simp[db]at y;split at y
 ·rename_i vs hp
  rw[hp]at hx;simp[CL]at hx
  let ⟨us,hq,Z3⟩:=hx
  let ⟨r,hr,hK⟩:=y
  let ⟨v,y,r9⟩:=ir _ Z3 hr
  refine a6 (s:=Instr.extract (a.eval x) i) (by simp[execOp,ho]) ?_ (Da.same h r9 hK);have ch:us[i]? = some v:=by simpa using y
  rw[hq];simp only[Instr.extract,ch];rfl
 ·exact y.elim
end
end Go.Sx
namespace Go.Sx
section
variable {P:Program} {B:dj} {Uc:FuncId->bT} {m:aJ} {sl:List ah} {lh:List av} {w:World} {a:Act} {o:Oper} {pl:Option Nat} {K:ah->List av->Prop}
theorem d5 {b:Builtin} {c:Call} {s:Sem Value} {v:Value} {w':World} {XX:Value->World->Prop} (ho:o.op=.call c) (hc:c.callee=.builtin b)
 (hb:∀cs,builtin b c.argTypes o.type cs (c.args.map a.eval)=(do pure (.value (← s)))) (hs:s.run P w=.ok v w') (hR:XX v w'):cQ P o a w XX:=by
 refine .inl ⟨v,w',?_,hR⟩;simp only[execOp,ho];rw[ac (a:={ target:=.builtin b c.argTypes o.type (c.args.map λ|.const _=>true|_=>false),args:=c.args.map a.eval }) (w':=w) (by simp only[resolve,hc];rfl)];simp only[invoke,hb];rw[ac hs];rfl
theorem hpx {c:Call} {t e:TypeId} {x:Operand} (ho:o.op=.call c) (hc:c.callee=.builtin .len) (ht:c.argTypes.toList=[t]) (hx:c.args.toList=[x])
 (hu:P.underlying t=some (.slice e)) (hs:aC m sl a.tmps.toList) (h:ba B m lh w) (y:db B.w0 Uc sl lh pl K (.len (be x))):cQ P o a w (Da B m lh K):=by
 have e1:c.argTypes=#[t]:=by rw[← MW,ht]
 have e2:c.args=#[x]:=by rw[← MW,hx]
 have ZM:=aV hs x;simp[db]at y;split at y
 ·rename_i p n c' hp
  rw[hp]at ZM
  let ⟨X1,hq,_⟩:=fW ZM
  refine d5 (s:=Builtin.len_ #[t] o.type #[a.eval x]) ho hc (λcs=>by rw[e1,e2];simp[builtin]) ?_ (Da.same h vI y);unfold Builtin.len_;rw[hq];show((underlying t >>= _:Sem Value)).run P w=_;rw[ac (aK hu w)];rfl
 ·exact y.elim
theorem agZ {c:Call} {t:TypeId} {x:Operand} (ho:o.op=.call c) (hc:c.callee=.builtin .len) (ht:c.argTypes.toList=[t]) (hx:c.args.toList=[x])
 (hu:P.underlying t=some .string) (hs:aC m sl a.tmps.toList) (h:ba B m lh w) (y:db B.w0 Uc sl lh pl K (.lenT (be x))):cQ P o a w (Da B m lh K):=by
 have e1:c.argTypes=#[t]:=by rw[← MW,ht]
 have e2:c.args=#[x]:=by rw[← MW,hx]
 have ZM:=aV hs x;simp[db]at y;split at y
 ·rename_i s hp;rw[hp]at ZM;refine d5 (s:=Builtin.len_ #[t] o.type #[a.eval x]) ho hc (λcs=>by rw[e1,e2];simp[builtin]) ?_ (Da.same h vI y);unfold Builtin.len_;rw[nf ZM];show((underlying t >>= _:Sem Value)).run P w=_;rw[ac (aK hu w)];rfl
 ·exact y.elim
theorem afz {c:Call} {t e:TypeId} {x:Operand} {n:Nat} (ho:o.op=.call c) (hc:c.callee=.builtin .len) (ht:c.argTypes.toList=[t]) (hx:c.args.toList=[x])
 (hu:P.underlying t=some (.array n e)) (h:ba B m lh w) (y:db B.w0 Uc sl lh pl K (.lenA n)):cQ P o a w (Da B m lh K):=by
 have e1:c.argTypes=#[t]:=by rw[← MW,ht]
 have e2:c.args=#[x]:=by rw[← MW,hx]
 simp[db]at y;refine d5 (s:=Builtin.len_ #[t] o.type #[a.eval x]) ho hc (λcs=>by rw[e1,e2];simp[builtin]) ?_ (Da.same h vI y);unfold Builtin.len_;show((underlying t >>= _:Sem Value)).run P w=_;rw[ac (aK hu w)];rfl
theorem akt {k:IntKind} {x At:Int} (w:World):(Builtin.max2 (.int k x) (.int k At)).run P w=.ok (.int k (max x At)) w:=by
 have:(if At > x then At else x)=max x At:=by split<;>omega
 simp only[Builtin.max2,this];rfl
theorem aic {k:IntKind} {x At:Int} (w:World):(Builtin.min2 (.int k x) (.int k At)).run P w=.ok (.int k (min x At)) w:=by
 have:(if At<x then At else x)=min x At:=by split<;>omega
 simp only[Builtin.min2,this];rfl
theorem Lz {K':ah->Prop}:∀ (b:Bool) (ys:List ah) (vs:List Value) (x:ah) (u:Value) (w:World),aC m ys vs->CL m x u->mm2 b x ys K' ->
 ∃r v,CL m r v/\K' r/\(vs.foldlM (if b then Builtin.max2 else Builtin.min2) u:Sem Value).run P w=.ok v w
 |b,[],vs,x,u,w,y,hx,hm=>by simp[aC]at y;subst y;exact⟨x,u,hx,by cases x<;>exact hm,rfl⟩
 |b,At::ys,vs,x,u,w,y,hx,hm=>by
   simp[aC]at y;obtain⟨v,vs,rfl,hy,y⟩:=y;unfold mm2 at hm;split at hm
   ·rename_i e;cases e
   ·rename_i k p k' X1 ys' e
    cases e
    let ⟨rfl,hm⟩:=hm
    rw[fy hx,fy hy]
    let ⟨r,z,N,Q,h3⟩:=Lz b ys vs (.int k (if b then max p X1 else min p X1)) (.int k (if b then max p X1 else min p X1)) w y vI hm
    refine⟨r,z,N,Q,?_⟩;rw[List.foldlM_cons];cases b
    ·simp only[JN,IG]at h3 ⊢;rw[ac (aic w)];exact h3
    ·simp only[J6]at h3 ⊢;rw[ac (akt w)];exact h3
   ·exact hm.elim
theorem Lq {c:Call} {b:Bool} {x At:Operand} {xs:List Operand} (ho:o.op=.call c) (hc:c.callee=.builtin (if b then .max else .min)) (hx:c.args.toList=x::At::xs)
 (hs:aC m sl a.tmps.toList) (h:ba B m lh w) (y:db B.w0 Uc sl lh pl K (.mm b (be x) ((At::xs).map be))):cQ P o a w (Da B m lh K):=by
 simp only[db]at y
 let ⟨r,v,N,Q,h3⟩:=Lz (P:=P) b _ _ _ _ w (gF hs (At::xs)) (aV hs x) y
 have e2:(c.args.map a.eval).toList=a.eval x::(At::xs).map a.eval:=by rw[Mb,hx];rfl
 cases b
 ·refine d5 (s:=Builtin.min_ c.argTypes o.type (c.args.map a.eval)) ho hc (λcs=>rfl) ?_ (Da.same h N Q);unfold Builtin.min_;rw[e2];exact h3
 ·refine d5 (s:=Builtin.max_ c.argTypes o.type (c.args.map a.eval)) ho hc (λcs=>rfl) ?_ (Da.same h N Q);unfold Builtin.max_;rw[e2];exact h3
theorem z6 {x:Option ah} {u:Option Value} {At d:Nat} {K':Nat->Prop} (w:World) (hx:match x,u with|none,none=>True|some x,some u=>CL m x u|_,_=>False) (h:bnd x At d K') :
 ∃n,K' n/\(u=none->n=d)/\∀v code,u=some v->(Instr.sliceBound v At code).run P w=.ok n w:=by
 cases x with
 |none=>
   cases u with
   |none=>exact⟨d,h,λ_=>rfl,λv _ y=>by cases y⟩|some u=>exact hx.elim
 |some x=>
   cases u with
   |none=>exact hx.elim
   |some u=>
     simp[bnd]at h;split at h
     ·rename_i e;cases e
     ·rename_i k i e
      cases e
      let ⟨N,Q,h3⟩:=h
      refine⟨i.toNat,h3,λe=>(by cases e),λv code y=>?_⟩;cases y;rw[fy hx];unfold Instr.sliceBound;rw[ac (a:=(k,i)) (w':=w) rfl];dsimp only
      rw[DL ⟨N,Q⟩];rfl
     ·exact h.elim
theorem yY (hs:aC m sl a.tmps.toList) (x:Option Operand):match (x.map be).map (arg sl),x.map a.eval with|none,none=>True|some x,some u=>CL m x u|_,_=>False:=by
 cases x with
 |none=>trivial|some x=>exact aV hs x
theorem pf {b:Bool} {n c:Nat} {lo hi mx:Option Operand} {K':Nat->Nat->Nat->Prop} (c7:¬ (mx.isSome=true/\hi.isSome=false)) (hs:aC m sl a.tmps.toList) (w:World)
 (h:bnd ((mx.map be).map (arg sl)) c c λmm=>bnd ((hi.map be).map (arg sl)) mm n λhh=>bnd ((lo.map be).map (arg sl)) hh 0 λl=>K' l hh mm) :
 ∃l hh mm,K' l hh mm/\(Instr.sliceBounds b n c (lo.map a.eval) (hi.map a.eval) (mx.map a.eval)).run P w=.ok (l,hh,mm) w:=by
 let ⟨mm,h,m1,m2⟩:=z6 (P:=P) w (yY hs mx) h
 let ⟨hh,h,N,Q⟩:=z6 (P:=P) w (yY hs hi) h
 let ⟨l,h,l1,l2⟩:=z6 (P:=P) w (yY hs lo) h
 refine⟨l,hh,mm,h,?_⟩;unfold Instr.sliceBounds;cases mx with
 |none=>
   obtain rfl:=m1 rfl;cases hi with
   |none=>
     obtain rfl:=N rfl;cases lo with
     |none=>obtain rfl:=l1 rfl;simp only[PL,pure_bind];rfl|some x=>simp only[PL,Hr,pure_bind];rw[ac (l2 _ _ rfl)];rfl
   |some At=>
     cases lo with
     |none=>obtain rfl:=l1 rfl;simp only[PL,Hr,pure_bind];rw[ac (Q _ _ rfl)];rfl|some x=>simp only[PL,Hr,pure_bind];rw[ac (Q _ _ rfl),ac (l2 _ _ rfl)];rfl
 |some z=>
   cases hi with
   |none=>exact(c7 ⟨rfl,rfl⟩).elim
   |some At=>
     cases lo with
     |none=>obtain rfl:=l1 rfl;simp only[PL,Hr,pure_bind];rw[ac (m2 _ _ rfl),ac (Q _ _ rfl)];rfl|some x=>simp only[Hr];rw[ac (m2 _ _ rfl),ac (Q _ _ rfl),ac (l2 _ _ rfl)];rfl
theorem C62 {p:Option hU} {X1:Option Addr} (h:dR m p X1) (c:Prop) [Decidable c] (n:Nat):dR m (if c then p else p.map (hU.add · n)) (if c then X1 else X1.map (·.add n)):=by
 split
 ·exact h
 ·cases p with|none=>simp[dR]at h;subst h;rfl|some p=>obtain⟨ad,rfl,Q⟩:=qm h n;exact Q
theorem fc5 {t e:TypeId} {x:Operand} {lo hi mx:Option Operand} {esz:Nat} (ho:o.op=.slice t x lo hi mx) (c7:¬ (mx.isSome=true/\hi.isSome=false)) (hu:P.underlying t=some (.slice e)) (he:d7 P e=some esz)
 (hs:aC m sl a.tmps.toList) (h:ba B m lh w) (y:db B.w0 Uc sl lh pl K (.slS esz (be x) (lo.map be) (hi.map be) (mx.map be))):cQ P o a w (Da B m lh K):=by
 have hx:=aV hs x;simp only[db]at y;split at y
 ·rename_i p n c hp
  rw[hp]at hx
  let ⟨X1,hq,YY⟩:=fW hx
  let ⟨l,hh,mm,hK,hrun⟩:=pf (P:=P) (b:=true) c7 hs w y
  refine a6 (s:=Instr.sliceAt t (a.eval x) (lo.map a.eval) (hi.map a.eval) (mx.map a.eval)) (v:=.slice (if mm=l then X1 else X1.map (·.add (l*esz))) (hh-l) (mm-l)) (by simp[execOp,ho]) ?_ (Da.same h ?_ hK)
  ·unfold Instr.sliceAt
   rw[ac (aK hu w)];dsimp only
   unfold Instr.slice;rw[ac (aK hu w),hq];dsimp only
   rw[ac hrun];dsimp only
   rw[ac (run_sizeOf he w)];rfl
  ·simp only[CL];exact⟨_,rfl,C62 YY _ _⟩
 ·exact y.elim
theorem alv {t e:TypeId} {x:Operand} {lo hi mx:Option Operand} {n esz:Nat} (ho:o.op=.slice t x lo hi mx) (c7:¬ (mx.isSome=true/\hi.isSome=false)) (hu:P.underlying t=some (.array n e)) (he:d7 P e=some esz)
 (hs:aC m sl a.tmps.toList) (h:ba B m lh w) (y:db B.w0 Uc sl lh pl K (.slA n esz (be x) (lo.map be) (hi.map be) (mx.map be))):cQ P o a w (Da B m lh K):=by
 have hx:=aV hs x;simp only[db]at y;split at y
 ·rename_i p hp
  rw[hp]at hx
  let ⟨X1,hq,YY⟩:=iL hx
  let ⟨l,hh,mm,hK,hrun⟩:=pf (P:=P) (b:=false) c7 hs w y
  obtain⟨ad,rfl,a8⟩:=abe YY;refine a6 (s:=Instr.sliceAt t (a.eval x) (lo.map a.eval) (hi.map a.eval) (mx.map a.eval)) (v:=.slice (some (if mm=l then ad else ad.add (l*esz))) (hh-l) (mm-l)) (by simp[execOp,ho]) ?_ (Da.same h ?_ hK)
  ·unfold Instr.sliceAt
   rw[ac (aK hu w)];dsimp only
   rw[hq,ac (a:=ad) (w':=w) rfl,ac hrun];dsimp only
   rw[ac (run_sizeOf he w)];rfl
  ·simp only[CL]
   refine⟨_,rfl,?_⟩;have:=C62 a8 (mm=l) (l*esz);by_cases e:mm=l
   ·simpa[e] using this
   ·simpa[e] using this
 ·exact y.elim
theorem hm' {t:TypeId} {x:Operand} {lo hi:Option Operand} (ho:o.op=.slice t x lo hi none) (hu:P.underlying t=some .string)
 (hs:aC m sl a.tmps.toList) (h:ba B m lh w) (y:db B.w0 Uc sl lh pl K (.slT (be x) (lo.map be) (hi.map be))):cQ P o a w (Da B m lh K):=by
 have hx:=aV hs x;simp only[db]at y;split at y
 ·rename_i s hp
  rw[hp]at hx
  let ⟨l,hh,mm,hK,hrun⟩:=pf (P:=P) (b:=false) (n:=s.size) (c:=s.size) (mx:=none) (K':=λl h _=>K (.str (s.extract l h)) lh) aD hs w y
  refine a6 (s:=Instr.sliceAt t (a.eval x) (lo.map a.eval) (hi.map a.eval) none) (v:=.string (s.extract l hh)) (by simp only[execOp,ho];rfl) ?_ (Da.same h SUn hK);unfold Instr.sliceAt;rw[ac (aK hu w)];dsimp only
  unfold Instr.slice;rw[ac (aK hu w),nf hx];simp only[Option.isSome_none,JN,IG];rw[PL]at hrun;rw[ac hrun];rfl
 ·exact y.elim
end
end Go.Sx
namespace Go.Sx
section
variable {P:Program} {B:dj} {Uc:FuncId->bT} {m:aJ} {sl:List ah} {lh:List av} {w:World} {a:Act} {o:Oper} {pl:Option Nat} {K:ah->List av->Prop}
theorem R78 (z:List Value):∀ n,(List.range (n*z.length)).map (λi=>z[i % z.length]!)=(List.replicate n z).flatten
 |0=>by simp
 |n+1=>by
   rw[O2,QF,← R78 z n,Hs,PD,List.range_add,List.map_append];congr 1
   ·apply List.ext_getElem
    ·simp
    ·intro i N Q;simp at N;simp[Nat.mod_eq_of_lt N,N]
   ·rw[List.map_map];apply Qn;intro i _;simp
theorem C30 (z:Array Value) (n:Nat):(Builtin.zeroCells z n).toList=(List.replicate n z.toList).flatten:=by
 unfold Builtin.zeroCells;rw[Mb];have:(Array.range (n*z.size)).toList=List.range (n*z.size):=by simp
 rw[this,← R78,P3];apply Qn;intro x _;rw[Array.getElem!_eq_getD,List.getElem!_eq_getElem?_getD,Array.getElem?_toList,S4]
theorem e8 {z:List ah} {vs:List Value} (h:aC m z vs):∀ n,aC m (List.replicate n z).flatten (List.replicate n vs).flatten
 |0=>by simp[aC]
 |n+1=>by simp[O2,QF];exact dW h (e8 h n)
theorem kX (h:ba B m lh w) {p:Option hU} {X1:Option Addr} (hq:dR m p X1) {size n k c:Nat} {xs:List ah} (hx:cellsOf B.w0 lh p (n*size)=some xs) :
 ∃vs,(Builtin.firstCells size n (.slice X1 k c)).run P w=.ok vs w/\aC m xs vs.toList:=by
 cases p with
 |none=>simp[dR]at hq;subst hq;simp[cellsOf,H2]at hx;subst hx;exact⟨#[],rfl,by simp[aC]⟩
 |some p=>obtain⟨ad,vs,rfl,hrun,hr⟩:=rB (P:=P) h hq hx;exact⟨vs,hrun,hr⟩
theorem kP {t u e e' ty:TypeId} {n c k c2 sz:Nat} {ps qs:Option Addr} {nv:Array Value} {w':World} (hu:P.underlying t=some (.slice e)) (Zp:P.underlying u=some (.slice e')) (YD:d7 P e=some sz)
 (hcap:n+k<=c) (hn:(Builtin.firstCells sz k (.slice qs k c2)).run P w=.ok nv w)
 (Y0:(match ps with|some ad=>storeCells (ad.add (n*sz)) nv.toList|none=>pure ()).run P w=.ok () w') :
 (Builtin.append_ #[t,u] ty #[.slice ps n c,.slice qs k c2]).run P w=.ok (.slice ps (n+k) c) w':=by
 simp only[Builtin.append_,Q1,MM,Jv];rw[ac (aK hu w)];dsimp only
 rw[ac (run_sizeOf YD w),ac (aK Zp w),pure_bind];simp only[JN,IG,Builtin.lenOf,pure_bind,PC,J6];rw[DL hcap,ac hn];cases ps with
 |none=>have hst':Result.ok () w=Result.ok () w':=Y0;cases hst';rfl
 |some ad=>simp only at Y0 ⊢;rw[ac Y0];rfl
theorem smL {t u e e' ty:TypeId} {n c k c2:Nat} {ps qs:Option Addr} {ov nv:Array Value} {i:TypeInfo} {z:Value} (hu:P.underlying t=some (.slice e)) (Zp:P.underlying u=some (.slice e')) (hi:P.info? e=some i)
 (hz:i.zero=some z) (hcap:¬n+k<=c) (hbytes:Builtin.nextslicecap (n+k) c*i.bytes<=2 ^ 48) (hbig:((n+k:Nat):Int)<=IntKind.i64.max∨i.bytes≠0)
 (hov:(Builtin.firstCells i.size n (.slice ps n c)).run P { w with drawn:=w.drawn+1 }=.ok ov { w with drawn:=w.drawn+1 })
 (hn:(Builtin.firstCells i.size k (.slice qs k c2)).run P { w with drawn:=w.drawn+1 }=.ok nv { w with drawn:=w.drawn+1 }) :
 ∃ nc,n+k<=nc/\(Builtin.append_ #[t,u] ty #[.slice ps n c,.slice qs k c2]).run P w =
  .ok (.slice (some ⟨w.heap.size,0,none⟩) (n+k) nc) { w with drawn:=w.drawn+1,heap:=w.heap.push (.cells (ov++nv++Builtin.zeroCells z.cells (nc-(n+k))) e (0,0)) }:=by
 have YD:d7 P e=some i.size:=by simp[d7,hi]
 refine⟨(Question.appendCap (n+k) c e).cut (w.tape w.drawn (.appendCap (n+k) c e)),by simp only[Question.cut];omega,?_⟩;generalize ZS:(Question.appendCap (n+k) c e).cut (w.tape w.drawn (.appendCap (n+k) c e))=nc;have Yj:(choose (.appendCap (n+k) c e)).run P w=.ok nc { w with drawn:=w.drawn+1 }:=by rw[← ZS];rfl
 have hask:(askRoom (nc*i.bytes)).run P { w with drawn:=w.drawn+1 }=.ok () { w with drawn:=w.drawn+1 }:=by unfold askRoom;split<;>rfl
 have sH:(zeroValue e).run P { w with drawn:=w.drawn+1 }=.ok z { w with drawn:=w.drawn+1 }:=by unfold zeroValue;rw[ac (dX hi _)];simp only[hz];rfl
 simp only[Builtin.append_,Q1,MM,Jv];rw[ac (aK hu w)];dsimp only
 rw[ac (run_sizeOf YD w),ac (aK Zp w),pure_bind];simp only[JN,IG,Builtin.lenOf,pure_bind,PC,J6,false_or];rw[Ck hcap,ac (dX hi w),Ck (by rintro⟨N,Q⟩;rcases hbig with h|h<;>omega),ac (dX hi w),Ck I];rw[ac Yj,ac (dX hi _),ac hask,ac hov,ac hn,ac sH,ac (jR _)];rfl
theorem fa2 {c:Call} {t u e e':TypeId} {s x:Operand} {i:TypeInfo} {z:Value} (ho:o.op=.call c) (hc:c.callee=.builtin .append) (ht:c.argTypes.toList=[t,u]) (hx:c.args.toList=[s,x])
 (hu:P.underlying t=some (.slice e)) (Zp:P.underlying u=some (.slice e')) (hi:P.info? e=some i) (hz:i.zero=some z) (hs:aC m sl a.tmps.toList) (h:ba B m lh w)
 (y:db B.w0 Uc sl lh pl K (.app e i.size i.bytes (z.cells.toList.map bL) (be s) (be x))):cQ P o a w (Da B m lh K):=by
 have e1:c.argTypes=#[t,u]:=by rw[← MW,ht]
 have e2:c.args=#[s,x]:=by rw[← MW,hx]
 have YD:d7 P e=some i.size:=by simp[d7,hi]
 have hss:=aV hs s;have ZM:=aV hs x;simp[db]at y;generalize arg sl (be s)=az at y hss;generalize arg sl (be x)=m64 at y ZM;unfold q8 at y;split at y
 ·rename_i p n c' X1 k c''
  let ⟨ps,iu,ie⟩:=fW hss
  let ⟨qs,hqs,hqq⟩:=fW ZM
  let ⟨new,hnew,Yu,hgrow⟩:=y
  have hpre:∀ {v:Value} {w':World},(Builtin.append_ #[t,u] o.type #[.slice ps n c',.slice qs k c'']).run P w=.ok v w'->Da B m lh K v w'->cQ P o a w (Da B m lh K):=λhR hP=>
   d5 (s:=Builtin.append_ #[t,u] o.type #[a.eval s,a.eval x]) ho hc (λcs=>by rw[e1,e2];simp[builtin]) (by rw[iu,hqs];exact hR) hP
  by_cases hcap:n+k<=c'
  ·replace Yu:=Yu hcap
   let ⟨nv,hnrun,i4⟩:=kX (P:=P) (k:=k) (c:=c'') h hqq hnew
   split at Yu
   ·rename_i b off
    let ⟨cs,ty,hk,hone,Y3,hK⟩:=Yu
    obtain⟨b',hb,rfl⟩:=ie;have hones:∀ At∈nv.toList,lG At=true:=by
     have:CL m (.agg new) (.agg nv):=by simp only[CL];exact⟨_,rfl,i4⟩
     exact(lQ this (by simpa[ah.flat] using hone)).2
    let ⟨w',hrun,hrel⟩:=ba.stores (P:=P) (off:=off+n*i.size) hb new nv.toList cs lh w 0 h hk I i4 hones
    refine hpre (kP (w':=w') hu Zp YD hcap hnrun ?_) (Da.store hk hrel ?_ hK)
    ·simp only;rw[lC];exact hrun
    ·simp only[CL];exact⟨_,rfl,_,hb,rfl⟩
   ·simp[dR]at ie;subst ie;exact hpre (kP (w':=w) hu Zp YD hcap hnrun rfl) (Da.same h (by simp only[CL];exact⟨_,rfl,rfl⟩) Yu)
   ·rename_i ad;obtain⟨rfl,hK⟩:=Yu;simp[aC]at i4;simp[dR]at ie;subst ie;refine hpre (kP (w':=w) hu Zp YD hcap hnrun ?_) (Da.same h (by simp only[CL];exact⟨_,rfl,rfl⟩) hK);simp only;rw[i4];unfold storeCells;rfl
  ·let ⟨old,hold,hbytes,hbig,hK⟩:=hgrow I
   have vz:=h.drew (w.drawn+1)
   let ⟨nv,hnrun,i4⟩:=kX (P:=P) (k:=k) (c:=c'') vz hqq hnew
   let ⟨ov,horun,hor⟩:=kX (P:=P) (k:=n) (c:=c') vz ie hold
   let ⟨nc,ZS,hrun⟩:=smL (P:=P) (ty:=o.type) hu Zp hi hz hcap hbytes hbig horun hnrun
   have Yl:=hK nc ZS;have hall:aC m (old++new++(List.replicate (nc-(n+k)) (z.cells.toList.map bL)).flatten) (ov++nv++Builtin.zeroCells z.cells (nc-(n+k))).toList:=by rw[Qo,Qo,C30];exact dW (dW hor i4) (e8 (cj m z.cells.toList) _)
   let ⟨p',m',lh',g1,g2,g3,g4⟩:=gM vz hall Yl
   exact hpre hrun ⟨_,m',lh',by simp only[CL];exact⟨_,rfl,_,g1,rfl⟩,g2,g3,g4⟩
 ·exact y.elim
theorem sqs {z:List Value} (h:z.all lG=true) (n:Nat):∀ u∈(List.replicate n z).flatten,lG u=true:=λu hu=>by
 let ⟨l,hl,hu⟩:=List.mem_flatten.1 hu
 rw[(List.mem_replicate.1 hl).2]at hu;exact List.all_eq_true.1 h u hu
theorem hge {c:Call} {t e:TypeId} {x:Operand} {i:TypeInfo} {z:Value} (ho:o.op=.call c) (hc:c.callee=.builtin .clear) (ht:c.argTypes.toList=[t]) (hx:c.args.toList=[x])
 (hu:P.underlying t=some (.slice e)) (hi:P.info? e=some i) (hz:i.zero=some z) (N:z.cells.size=i.size) (Q:z.cells.toList.all lG=true) (hs:aC m sl a.tmps.toList) (h:ba B m lh w)
 (y:db B.w0 Uc sl lh pl K (.clr i.size (z.cells.toList.map bL) (be x))):cQ P o a w (Da B m lh K):=by
 have e1:c.argTypes=#[t]:=by rw[← MW,ht]
 have e2:c.args=#[x]:=by rw[← MW,hx]
 have ZM:=aV hs x;simp[db]at y;split at y
 ·rename_i k off n c' hp
  rw[hp]at ZM
  let ⟨X1,hq,YY⟩:=fW ZM
  obtain⟨b,hb,rfl⟩:=YY
  let ⟨cs,ty,hk,hn,Y3,hK⟩:=y
  have hrel:=e8 (m:=m) (cj m z.cells.toList) n;have hl:=cB hrel
  let ⟨w',hrun,hrel'⟩:=ba.stores (P:=P) (off:=off) hb (List.replicate n (z.cells.toList.map bL)).flatten (List.replicate n z.cells.toList).flatten cs lh w 0 h hk (by rw[M1,← hl];simp;rw[N];omega) hrel (sqs Q n)
  refine d5 (s:=Builtin.clear_ #[t] o.type #[a.eval x]) (w':=w') ho hc (λcs=>by rw[e1,e2];simp[builtin]) ?_ (Da.store (r:=.tup []) (v:=.tuple #[]) hk hrel' (by simp[CL,aC]) hK);unfold Builtin.clear_;rw[hq];have sH:(zeroValue e).run P w=.ok z w:=by unfold zeroValue;rw[ac (dX hi _)];simp only[hz];rfl
  obtain⟨n,rfl⟩:∃n',n=n'+1:=⟨n-1,I⟩;simp only[Q1,MM];rw[ac (aK hu w)];show(do let yay ← zeroValue e;storeCells ⟨b,off,none⟩ (Builtin.zeroCells yay.cells (n+1)).toList;pure (Value.tuple #[]):Sem Value).run P w=_;rw[ac sH,C30,ac hrun];rfl
 ·rename_i p n c' resV hp
  rw[hp]at ZM
  let ⟨X1,hq,YY⟩:=fW ZM
  obtain⟨rfl,hK⟩:=y;refine d5 (s:=Builtin.clear_ #[t] o.type #[a.eval x]) ho hc (λcs=>by rw[e1,e2];simp[builtin]) ?_ (Da.same h (by simp[CL,aC]:CL m (.tup []) (.tuple #[])) hK);unfold Builtin.clear_;rw[hq];simp only[Q1,MM];rw[ac (aK hu w)];cases X1<;>rfl
 ·exact y.elim
theorem aiv {c : Call} {f : FuncId} {fn : Func} (hS : ∀ f, (Uc f).Sound P f) (ho : o.op = .call c) (hc : c.callee = .value (.func f)) (hf : P.funcs[f]? = some fn) (hn : (fn.name == "runtime.NumGoroutine") = false) (hb : fn.body.isNone = false)
 (hs:aC m sl a.tmps.toList) (h:ba B m lh w) (y:db B.w0 Uc sl lh pl K (.call f (c.args.toList.map be))):cQ P o a w (Da B m lh K):=by
 simp only[db]at y
 let ⟨_,hcall⟩:=hS f B m lh w _ _ K h (gF hs c.args.toList) y
 refine .inr (.inr ⟨f,((c.args.toList.map a.eval)).toArray,?_,hcall.mono λe w' ⟨v,r,m',lh',N,Q,h3,h4,h5⟩=>⟨v,N,r,m',lh',Q,h3,h4,h5⟩⟩)
 simp only[execOp,ho]
 rw[ac (a:={ target:=.fn (.func f) #[],args:=#[]++c.args.map a.eval }) (w':=w) (by simp only[resolve,hc,Act.eval];rfl)]
 simp only[invoke,callFunc]
 rw[ac (a:=P) (w':=w) rfl,hf]
 simp only[hn,hb,JN,IG]
 have:#[]++c.args.map a.eval++#[]=(c.args.toList.map a.eval).toArray:=by
  apply Array.toList_inj.1;simp
 rw[this];rfl
theorem af0 {c:Call} {x:Operand} (hS:∀ f,(Uc f).Sound P f) (ho:o.op=.call c) (hc:c.callee=.value x)
 (hs:aC m sl a.tmps.toList) (h:ba B m lh w) (y:db B.w0 Uc sl lh pl K (.callv (be x) (c.args.toList.map be))):cQ P o a w (Da B m lh K):=by
 have hx:=aV hs x;simp only[db]at y;split at y
 ·rename_i f xs ys hp
  rw[hp]at hx;simp only[CL]at hx
  let ⟨us,vs,hq,N,Q⟩:=hx
  let ⟨⟨fn,hf,hn,hb⟩,hcall⟩:=hS f B m lh w _ _ K h (dW (dW N (gF hs c.args.toList)) Q) y
  refine .inr (.inr ⟨f,_,?_,hcall.mono λe w' ⟨v,r,m',lh',N,Q,h3,h4,h5⟩=>⟨v,N,r,m',lh',Q,h3,h4,h5⟩⟩);simp only[execOp,ho];rw[ac (a:={ target:=.fn (.func f) vs,args:=us++c.args.map a.eval }) (w':=w) (by simp only[resolve,hc,hq];rfl)];simp only[invoke,callFunc];rw[ac (a:=P) (w':=w) rfl,hf];simp only[hn,hb,JN,IG];have:us++c.args.map a.eval++vs=(us.toList++c.args.toList.map a.eval++vs.toList).toArray:=by apply Array.toList_inj.1;simp
  rw[this];rfl
 ·exact y.elim
theorem alY {t e:TypeId} {k k':IntKind} {n:Int} {i:TypeInfo} {z:Value} (ho:o.op=.makeSlice t (.const (.int k n)) (.const (.int k' n))) (hu:P.underlying t=some (.slice e)) (hi:P.info? e=some i) (hz:i.zero=some z)
 (hn:0<n) (notf:n<=1000) (hb:(i.bytes:Int)*n<=2 ^ 40) (h0:i.size≠0) (h:ba B m lh w)
 (y:db B.w0 Uc sl lh pl K (.mks e n.toNat (((List.range (n.toNat*i.size)).map (z.cells[· % z.cells.size]!)).map bL))):cQ P o a w (Da B m lh K):=by
 have YD:d7 P e=some i.size:=by simp[d7,hi]
 simp only[db]at y
 let ⟨p,m',lh',g1,g2,g3,g4⟩:=gM h (vs:=((List.range (n.toNat*i.size)).map (z.cells[· % z.cells.size]!)).toArray) (by simpa using cj m ((List.range (n.toNat*i.size)).map (z.cells[· % z.cells.size]!))) y
 refine a6 (s:=Instr.makeSlice t (.int k n) (.int k' n)) (v:=.slice (some ⟨w.heap.size,0,none⟩) n.toNat n.toNat) (by simp only[execOp,ho];rfl) ?_ ⟨_,m',lh',by simp only[CL];exact⟨_,rfl,_,g1,rfl⟩,g2,g3,g4⟩;have hw:IntKind.i64.wrap n=n:=by have N:n % (2 ^ 64:Int)=n:=Int.emod_eq_of_lt I I;simp only[IntKind.wrap,IntKind.bits,IntKind.signed,N];rw[Ck (by simp;omega)]
 have sH:(zeroValue e).run P w=.ok z w:=by unfold zeroValue;rw[ac (dX hi _)];simp only[hz];rfl
 have hask:(askRoom (n.toNat*i.bytes)).run P w=.ok () w:=by unfold askRoom;split<;>rfl
 unfold Instr.makeSlice;rw[ac (aK hu w)];dsimp only
 rw[ac (a:=n) (w':=w) rfl,ac (a:=n) (w':=w) rfl,ac (dX hi w)];simp only[hw];rw[Ck (by simp;omega),ac hask,ac (run_sizeOf YD w)];have Yf:n.toNat*i.size≠0:=Nat.mul_ne_zero I h0;rw[Ck Yf,ac sH,pure_bind,ac (jR w)];have e:Array.map (λx=>z.cells[x % z.cells.size]!) (Array.range (n.toNat*i.size))=(List.map (λx=>z.cells[x % z.cells.size]!) (List.range (n.toNat*i.size))).toArray:=by apply Array.toList_inj.1;simp
 rw[e];rfl
theorem nM {BD:List TypeId} {i:kl} (hS:∀ f,(Uc f).Sound P f) (hE:∀ t∈BD,dc P t) (hc:ip P BD o=some i) (hs:aC m sl a.tmps.toList) (h:ba B m lh w) (y:db B.w0 Uc sl lh pl K i) :
 cQ P o a w (Da B m lh K):=by
 have Yg:=hc;cases ho:o.op<;>simp only[ip,ho]at hc<;>try (cases hc;done)
 case move x=>cases hc;exact DZ (.inl ho) hs h y
 case assign x=>cases hc;exact DZ (.inr ho) hs h y
 case pick c x At=>cases hc;exact agE ho hs h y
 case alloc t=>simp only[HG]at hc;obtain⟨z,hz,rfl⟩:=hc;exact alR ho hz h y
 case box t x=>cases hc;exact by0 ho hs h y
 case build t ps=>exact afn ho Yg hs h y
 case buildSlice t n ps=>exact alV ho Yg hs h y
 case load t x=>exact if5 ho Yg hs h y
 case store t x At=>simp[HG]at hc;obtain⟨n,hn,rfl⟩:=hc;exact aaU ho hn hs h y
 case nilCheck x=>cases hc;exact nc1 ho hs h y
 case binOp op t x At u=>
  split at hc
  ·rename_i hu;cases hc;exact Gc (neg:=false) rfl ho hu hs h y
  ·rename_i hu;cases hc;exact Gc (neg:=true) rfl ho hu hs h y
  ·split at hc
   ·rename_i hm;simp[HG]at hc;obtain⟨n,hn,rfl⟩:=hc;exact tF (neg:=false) hn rfl ho (hE t (by simpa using hm)) hs h y
   ·cases hc
  ·split at hc
   ·rename_i hm;simp[HG]at hc;obtain⟨n,hn,rfl⟩:=hc;exact tF (neg:=false) hn rfl ho (hE t (by simpa using hm)) hs h y
   ·cases hc
  ·split at hc
   ·rename_i hm;simp[HG]at hc;obtain⟨n,hn,rfl⟩:=hc;exact tF (neg:=true) hn rfl ho (hE t (by simpa using hm)) hs h y
   ·cases hc
  ·split at hc
   ·rename_i hm;simp[HG]at hc;obtain⟨n,hn,rfl⟩:=hc;exact tF (neg:=true) hn rfl ho (hE t (by simpa using hm)) hs h y
   ·cases hc
  ·cases hc;exact GA ho hs h y
  ·cases hc;exact GA ho hs h y
  ·rename_i hu
   split at hc
   ·rename_i hy;cases hc;exact Gl (neg:=false) rfl ho hu hy hs h y
   ·cases hc
  ·rename_i hu
   split at hc
   ·rename_i hy;cases hc;exact Gl (neg:=true) rfl ho hu hy hs h y
   ·cases hc
  ·cases hc
 case unOp op t x=>cases hc;exact acG ho hs h y
 case convert s d x=>
  split at hc
  ·rename_i ds k N Q;cases hc;exact aj0 ho N Q hs h y
  ·cases hc
 case makeFunc f xs ys=>cases hc;exact hk' ho hs h y
 case fieldAddr t x j=>
  split at hc
  ·rename_i fs hu
   split at hc
   ·rename_i f hf
    split at hc
    ·rename_i n hn
     split at hc
     ·cases hc
     ·rename_i a7;cases hc;exact ie2 ho hu hf hn a7 hs h y
    ·cases hc
   ·cases hc
  ·cases hc
 case field t x j=>
  split at hc
  ·rename_i fs hu
   split at hc
   ·rename_i f hf;simp[HG]at hc;obtain⟨n,hn,rfl⟩:=hc;exact hqa ho hu hf hn hs h y
   ·cases hc
  ·cases hc
 case indexAddr t x ix=>
  split at hc
  ·rename_i n e hu;simp[HG]at hc;obtain⟨n,hn,rfl⟩:=hc;exact aly ho hu hn hs h y
  ·rename_i e hu;simp[HG]at hc;obtain⟨n,hn,rfl⟩:=hc;exact c66 ho hu hn hs h y
  ·cases hc
 case index t x ix=>
  split at hc
  ·rename_i n e hu
   split at hc
   ·rename_i s ag N Q;cases hc;exact hbn ho hu N Q hs h y
   ·cases hc
  ·rename_i hu;cases hc;exact hno ho hu hs h y
  ·cases hc
 case extract x j=>cases hc;exact hey ho hs h y
 case makeInterface=>cases hc;simp[db,Gv,arg]at y
 case panic=>cases hc;simp[db,Gv,arg]at y
 case slice t x lo hi mx=>
  split at hc
  ·cases hc
  ·rename_i c7
   have hmx':¬(mx.isSome=true/\hi.isSome=false):=by simpa using c7
   split at hc
   ·rename_i e hu;simp[HG]at hc;obtain⟨n,hn,rfl⟩:=hc;exact fc5 ho hmx' hu hn hs h y
   ·rename_i n e hu;simp[HG]at hc;obtain⟨n,hn,rfl⟩:=hc;exact alv ho hmx' hu hn hs h y
   ·rename_i hu
    split at hc
    ·cases hc
    ·rename_i hm
     cases mx with
     |none=>cases hc;exact hm' ho hu hs h y|some x=>simp at hm
   ·cases hc
 case makeSlice t x At=>
  unfold Gu at hc;split at hc
  ·rename_i k n k' n' e hu
   split at hc
   ·rename_i i hi
    split at hc
    ·rename_i z hz
     split at hc
     ·rename_i hcond;simp[DD,IJ,bne_iff_ne]at hcond;obtain⟨⟨⟨⟨rfl,N⟩,Q⟩,h3⟩,h4⟩:=hcond;cases hc;exact alY ho hu hi hz N Q h3 h4 h y
     ·cases hc
    ·cases hc
   ·cases hc
  ·cases hc
 case call c=>
  split at hc
  ·rename_i f hcal
   split at hc
   ·rename_i fn hf
    split at hc
    ·cases hc
    ·rename_i hcond;simp only[MX,not_or,Bool.not_eq_true]at hcond;cases hc;exact aiv hS ho hcal hf hcond.1 hcond.2 hs h y
   ·cases hc
  ·rename_i x hcal;cases hc;exact af0 hS ho hcal hs h y
  ·rename_i b hcal
   unfold K17 at hc;split at hc
   ·rename_i t x ht hx
    split at hc
    ·rename_i e hu;cases hc;exact hpx ho hcal ht hx hu hs h y
    ·rename_i hu;cases hc;exact agZ ho hcal ht hx hu hs h y
    ·rename_i n e hu;cases hc;exact afz ho hcal ht hx hu h y
    ·cases hc
   ·rename_i x At xs hx;cases hc;exact Lq (b:=true) ho hcal hx hs h y
   ·rename_i x At xs hx;cases hc;exact Lq (b:=false) ho hcal hx hs h y
   ·rename_i t u s x ht hx
    split at hc
    ·rename_i e e' hu Zp
     split at hc
     ·rename_i i hi
      split at hc
      ·rename_i z hz
       split at hc
       ·cases hc;exact fa2 ho hcal ht hx hu Zp hi hz hs h y
       ·cases hc
      ·cases hc
     ·cases hc
    ·cases hc
   ·rename_i t x ht hx
    split at hc
    ·rename_i e hu
     split at hc
     ·rename_i i hi
      split at hc
      ·rename_i z hz
       split at hc
       ·rename_i hcond;simp only[DD,IJ]at hcond;cases hc;exact hge ho hcal ht hx hu hi hz hcond.1 hcond.2 hs h y
       ·cases hc
      ·cases hc
     ·cases hc
    ·cases hc
   ·cases hc
  ·cases hc
end
end Go.Sx
namespace Go.Sx
structure ia where
 dst:Option Nat
 op:kl
 guard:Option (Nat×Bool)
inductive Ex where|normal|exit (id:Nat)|ret
def eH (sl:List ah) (d:Option Nat) (v:ah):List ah :=
 match d with
 |some d=>sl.set d v|none=>sl
def ff (w0:World) (Uc:FuncId->bT):List ia->List ah->List av->(List ah->List av->Prop)->Prop
 |[],sl,lh,K=>K sl lh
 |o::rest,sl,lh,K=>
   match o.guard with
   |none=>db w0 Uc sl lh none (λv lh'=>ff w0 Uc rest (eH sl o.dst v) lh' K) o.op
   |some (d,want)=>
     match sl.getD d .any with
     | .bool b=>(b=want->db w0 Uc (sl.set d (.bool want)) lh none (λv lh'=>ff w0 Uc rest (eH (sl.set d (.bool want)) o.dst v) lh' K) o.op) /\
        (b=!want->ff w0 Uc rest (eH (sl.set d (.bool (!want))) o.dst (.tup [])) lh K)
     |.tup vs=>ff w0 Uc rest (eH (sl.set d (.tup vs)) o.dst (.tup [])) lh K|.int ..=>ff w0 Uc rest (eH sl o.dst (.tup [])) lh K|_=>False
def ke (P:Program) (BD:List TypeId) (ops:Array Oper) (o:Oper):Option ia :=
 match ip P BD o,o.guard with
 |some i,none=>some ⟨o.dst,i,none⟩
 |some i,some (j,want)=>match (ops[j]?).bind (·.dst) with|some d=>some ⟨o.dst,i,some (d,want)⟩|none=>none
 |none,_=>none
def fq (P:Program) (BD:List TypeId) (ops:Array Oper):List Oper->Option (List ia)
 |[]=>some []
 |o::l=>match ke P BD ops o,fq P BD ops l with|some x,some xs=>some (x::xs)|_,_=>none
structure jT (F:Fence):Prop where
 fn:∀f,F.fn f
 depth:F.depth=none
 alive:F.alive=false
theorem jT.fenced {F:Fence} (h:jT F) (P:Program) (mc:Machine):mc.fenced P F:=λg _=>
 ⟨λe=>(by rw[h.alive]at e;cases e),.inl (h.fn _),λ_ _=>h.fn _,λd hd=>by rw[h.depth]at hd;cases hd⟩
theorem jT.steps {F:Fence} (h:jT F) {P:Program} {a b:Machine}:StepsIn (Machine.fenced P F) P a b↔Steps P a b :=
 ⟨StepsIn.steps,λk=>(StepsIn.of_steps k).mono λmc _=>h.fenced P mc⟩
theorem jT.calls {F:Fence} (h:jT F) {n:Nat} {P:Program} {f:FuncId} {args:Array Value} {w:World} {XX:Ending->World->Prop} (hc:Calls P f args w XX):CallsIn F n P f args w XX :=
 ⟨h.fn f,λcs _=>let ⟨e,w',fr,r,s,x⟩:=hc cs;⟨e,w',fr,r,by cases e with|returned v=>exact h.steps.2 s|panicked c=>exact h.steps.2 s|outgrown=>exact s,x⟩⟩
theorem afy:jT Fence.wide:=⟨λ_=>trivial,rfl,rfl⟩
section
variable {P:Program} {B:dj} {Uc:FuncId->bT} {BD:List TypeId} {F:Fence} {n:Nat} {ops:Array Oper}
theorem smT {o:Oper} {i:kl} (hc:ip P BD o=some i) (r:Option Nat) (ρ:Operand->Value):o.semAt r ρ=execOp ρ o:=by
 unfold Oper.semAt;split
 ·rename_i l d c ho;simp only[ip,ho]at hc;cases hc
 ·rfl
def i9 (B:dj) (m:aJ) (sl:List ah) (lh:List av) (a:Act) (w:World):Prop:=aC m sl a.tmps.toList/\a.defers=B.ds/\ba B m lh w
theorem Bc (a:Act) (d:Option Tmp) (v:Value):(a.put d v).tmps.toList=match d with|some d=>a.tmps.toList.set d v|none=>a.tmps.toList:=by cases d<;>simp[Act.put]
theorem i9.put {m m':aJ} {sl:List ah} {lh lh':List av} {a:Act} {w w':World} (h:i9 B m sl lh a w) (hm:m.le m') (h':ba B m' lh' w') (d:Option Nat) {r:ah} {v:Value} (hr:CL m' r v) :
 i9 B m' (eH sl d r) lh' (a.put d v) w':=by
 refine⟨?_,by cases d<;>exact h.2.1,h'⟩;rw[Bc];cases d with
 |none=>exact cH hm _ _ h.1|some d=>exact jH d (cH hm _ _ h.1) hr
theorem iF (hF:jT F) {o:Oper} {i:kl} (hc:ip P BD o=some i) {a:Act} {w:World} {XX:Value->World->Prop} {next:Act->World->Prop} {X4:Exit->Act->World->Prop}
 (h:cQ P o a w XX) (hn:∀v w',XX v w'->next (a.put o.dst v) w'):o.wpIn F n P a w next X4:=by
 refine⟨λf _=>hF.fn f,?_⟩;rw[smT hc];rcases h with ⟨v,w',N,Q⟩|⟨w',N,Q⟩|⟨f,args,N,Q⟩
 ·rw[N];exact hn _ _ Q
 ·rw[N];exact hn _ _ Q
 ·rw[N];refine⟨λe=>(by rw[hF.depth]at e;cases e),hF.calls (Q.mono λe w' ⟨v,he,hR⟩=>?_)⟩;subst he;exact hn _ _ hR
theorem pH {m:aJ} {sl:List ah} {a:Act} (hs:aC m sl a.tmps.toList) {j d:Nat} (hj:(ops[j]?).bind (·.dst)=some d) :
 (∀b,sl.getD d .any=.bool b->yielded ops a.tmps j=some b)/\(∀vs,sl.getD d .any=.tup vs->yielded ops a.tmps j=none)/\(∀k n,sl.getD d .any=.int k n->yielded ops a.tmps j=none):=by
 have key:∀ x,sl.getD d .any=x->x≠.any->∃ v,a.tmps[d]? = some v/\CL m x v:=λx hx Yf=>by
  cases hg:sl[d]? with
  |none=>simp[List.getD,hg]at hx;exact(Yf hx.symm).elim
  |some At=>
    let ⟨v,y,hr⟩:=ir d hs hg
    simp[List.getD,hg]at hx;subst hx;exact⟨v,by simpa using y,hr⟩
 refine⟨λb hb=>?_,λvs hb=>?_,λk n hb=>?_⟩<;>let ⟨v,y,hr⟩:=key _ hb aD<;>simp[yielded,hj,Option.bind_some,y]
 ·rw[im hr]
 ·simp[CL]at hr;obtain⟨us,rfl,_⟩:=hr;rfl
 ·rw[fy hr]
theorem fG {m:aJ} {sl:List ah} {lh:List av} {a:Act} {w:World} (h:i9 B m sl lh a w) {d:Nat} {x:ah} (hx:sl.getD d .any=x):i9 B m (sl.set d x) lh a w:=by
 refine⟨?_,h.2.1,h.2.2⟩;cases hg:sl[d]? with
 |none=>rw[List.set_eq_of_length_le (by simpa using hg)];exact h.1
 |some At=>
   simp[List.getD,hg]at hx;subst hx;have:sl.set d At=sl:=by
    apply Kk;intro j;rw[HM];split
    ·rename_i e;subst e
     let ⟨N,Q⟩:=List.getElem?_eq_some_iff.1 hg
     simp[N,Q]
    ·rfl
   rw[this];exact h.1
theorem nr (hF:jT F) (hS:∀ f,(Uc f).Sound P f) (hE:∀ t∈BD,dc P t) {X4:Exit->Act->World->Prop} (rest:List Nat):∀ (l:List Oper) (xs:List ia) (k:Nat) (sl:List ah) (lh:List av) (m:aJ) (a:Act) (w:World) (K:List ah->List av->Prop),
 (∀j,j<l.length->l[j]? = ops[k+j]?)->fq P BD ops l=some xs->ff B.w0 Uc xs sl lh K->i9 B m sl lh a w ->
 (∀sl' lh' m' a' w',i9 B m' sl' lh' a' w'->iq lh m lh' m'->K sl' lh'->wpOpsIn F n P ops X4 rest a' w')->wpOpsIn F n P ops X4 (List.range' k l.length++rest) a w
 |[],xs,k,sl,lh,m,a,w,K,_,hc,y,hs,hQ=>by simp[fq,H2]at hc;subst hc;exact hQ _ _ _ _ _ hs (iq.refl _ _) y
 |o::l,xs,k,sl,lh,m,a,w,K,hl,hc,y,hs,hQ=>by
   have h0:ops[k]? = some o:=by simpa using(hl 0 aD).symm
   have YM:∀j,j<l.length->l[j]? = ops[k+1+j]? := λj hj=>by have:=hl (j+1) (by simpa using hj);simpa[N1,PD 1 j] using this
   simp[fq]at hc;split at hc
   ·rename_i x xs' hx Ys
    cases hc;simp[MN,O5,PH,wpOpsIn,h0];have ih:=λYp lh1 m1 a1 w1 y hs (he:iq lh m lh1 m1)=>nr hF hS hE rest l xs' (k+1) Yp lh1 m1 a1 w1 K YM Ys y hs (λsl' lh' m' a' w' N Q h3=>hQ sl' lh' m' a' w' N (he.trans Q) h3);unfold ke at hx;split at hx
    ·rename_i i hi hg;cases hx;simp[ff]at y;rw[DL (by simp[Region.wanted,hg])];refine iF hF hi (nM hS hE hi hs.1 hs.2.2 y) λv w' ⟨r,m',lh',N,Q,h3,h4⟩=>?_;exact ih _ _ m' _ _ h4 (hs.put Q.1 h3 o.dst N) Q
    ·rename_i i j want hi hg
     split at hx
     ·rename_i d hd
      cases hx;simp[ff]at y
      let ⟨y1,y2,y3⟩:=pH (ops:=ops) hs.1 hd
      split at y
      ·rename_i b hb
       have hy:=y1 b hb;by_cases e₂:b=want
       ·subst e₂;have Yc:=fG hs hb;rw[DL (by simp[Region.wanted,hg,hy])];refine iF hF hi (nM hS hE hi Yc.1 Yc.2.2 (y.1 rfl)) λv w' ⟨r,m',lh',N,Q,h3,h4⟩=>?_;exact ih _ _ m' _ _ h4 (Yc.put Q.1 h3 o.dst N) Q
       ·have eq:b=!want:=by cases b<;>cases want<;>simp_all
        have Yc:=fG hs hb;rw[Ck (by simp[Region.wanted,hg,hy,e₂])];refine⟨λf _=>hF.fn f,?_⟩;rw[eq]at Yc;exact ih _ _ m _ _ (y.2 eq) (Yc.put (aJ.le_refl m) hs.2.2 o.dst (by simp[CL,aC,undef])) (iq.refl _ _)
      ·rename_i vs hb;rw[Ck (by simp[Region.wanted,hg,y2 _ hb])];refine⟨λf _=>hF.fn f,?_⟩;exact ih _ _ m _ _ y ((fG hs hb).put (aJ.le_refl m) hs.2.2 o.dst (by simp[CL,aC,undef])) (iq.refl _ _)
      ·rename_i hb;rw[Ck (by simp[Region.wanted,hg,y3 _ _ hb])];refine⟨λf _=>hF.fn f,?_⟩;exact ih _ _ m _ _ y (hs.put (aJ.le_refl m) hs.2.2 o.dst (by simp[CL,aC,undef])) (iq.refl _ _)
      ·exact y.elim
     ·cases hx
    ·cases hx
   ·cases hc
end
end Go.Sx
namespace Go.Sx
structure bT.Ok (P:Program) (f:FuncId) (Uc:bT):Prop where
 sound:Uc.Sound P f
 mono:∀w0 args lh K K',(∀r l,K r l->K' r l)->Uc w0 args lh K->Uc w0 args lh K'
 strict:∀w0 args lh (X4:Prop),Uc w0 args lh (λ_ _=>X4)->X4
def J4:kl->Bool
 |.call ..|.callv ..|.app ..=>false|_=>true
section
variable {w0:World} {Uc:FuncId->bT} {sl:List ah} {lh:List av} {pl:Option Nat}
theorem aea {o:av} {K K':Nat->List av->Prop} (h:∀ p l,K p l->K' p l) (hp:place pl lh o K):place pl lh o K':=by
 cases pl with
 |none=>exact h _ _ hp|some p=>exact⟨hp.1,h _ _ hp.2⟩
theorem aep (o:av):∃ d:Option (Nat×List av),∀ K:Nat->List av->Prop,place pl lh o K↔∃ p l,d=some (p,l)/\K p l:=by
 cases pl with
 |none=>exact⟨some (lh.length,lh++[o]),λK=>⟨λh=>⟨_,_,rfl,h⟩,λ⟨p,l,e,h⟩=>by cases e;exact h⟩⟩
 |some p=>
   by_cases hd:lh[p]? = some .dead
   ·exact⟨some (p,lh.set p o),λK=>⟨λh=>⟨_,_,rfl,h.2⟩,λ⟨X1,l,e,h⟩=>by cases e;exact⟨hd,h⟩⟩⟩
   ·exact⟨none,λK=>⟨λh=>(hd h.1).elim,λ⟨X1,l,e,h⟩=>by cases e⟩⟩
def cg (Φ:(ah->List av->Prop)->Prop):Prop:=∃d:Option (ah×List av),∀K,Φ K↔∃v l,d=some (v,l)/\K v l
theorem cg.yes (v:ah) (l:List av):cg (λK=>K v l):=⟨some (v,l),λ_=>⟨λh=>⟨_,_,rfl,h⟩,λ⟨_,_,e,h⟩=>by cases e;exact h⟩⟩
theorem cg.no:cg (λ_=>False):=⟨none,λ_=>⟨λh=>h.elim,λ⟨_,_,e,_⟩=>by cases e⟩⟩
theorem cg.and {Φ:(ah->List av->Prop)->Prop} (p:Prop) (h:cg Φ):cg (λK=>p/\Φ K):=by
 let ⟨d,hd⟩:=h
 by_cases hp:p
 ·exact⟨d,λK=>⟨λh=>(hd K).1 h.2,λh=>⟨hp,(hd K).2 h⟩⟩⟩
 ·exact⟨none,λK=>⟨λh=>(hp h.1).elim,λ⟨_,_,e,_⟩=>by cases e⟩⟩
theorem cg.ex {α:Type} {Φ:α->(ah->List av->Prop)->Prop} (x:Option α) (h:∀ a,cg (Φ a)):cg (λK=>∃ a,x=some a/\Φ a K):=by
 cases x with
 |none=>exact⟨none,λK=>⟨λ⟨_,e,_⟩=>(by cases e),λ⟨_,_,e,_⟩=>(by cases e)⟩⟩
 |some a=>
   let ⟨d,hd⟩:=h a
   exact⟨d,λK=>⟨λ⟨_,e,hK⟩=>(by cases e;exact(hd K).1 hK),λhK=>⟨a,rfl,(hd K).2 hK⟩⟩⟩
theorem cg.congr {Φ Ψ:(ah->List av->Prop)->Prop} (h:∀ K,Φ K↔Ψ K) (hd:cg Ψ):cg Φ:=by
 let ⟨d,hd⟩:=hd
 exact⟨d,λK=>(h K).trans (hd K)⟩
theorem cg.place (o:av) (f:Nat->ah):cg (λK=>place pl lh o λp l=>K (f p) l):=by
 let ⟨d,hd⟩:=aep (lh:=lh) (pl:=pl) o
 refine⟨d.map λ(p,l)=>(f p,l),λK=>(hd _).trans ⟨λ⟨p,l,e,h⟩=>⟨_,_,by rw[e];rfl,h⟩,λ⟨v,l,e,h⟩=>?_⟩⟩;cases d with
 |none=>cases e|some d=>cases e;exact⟨_,_,rfl,h⟩
theorem cg.bnd {Φ:Nat->(ah->List av->Prop)->Prop} (x:Option ah) (At d:Nat) (h:∀ n,cg (Φ n)):cg (λK=>bnd x At d λn=>Φ n K):=by
 unfold Sx.bnd;cases x with
 |none=>exact h d|some x=>cases x<;>first|exact cg.no|exact cg.and _ (cg.and _ (h _))
theorem cg.parts (ps:List (Nat×Nat×fM)):∀ (z:List ah) {Φ:List ah->(ah->List av->Prop)->Prop},(∀ cs,cg (Φ cs))->cg (λK=>parts sl ps z λcs=>Φ cs K):=by
 induction ps with
 |nil=>intro z Φ h;exact h z|cons p ps ih=>intro z Φ h;let ⟨off,n,x⟩:=p;exact cg.and _ (cg.and _ (cg.and _ (ih _ h)))
theorem cg.mm2 (b:Bool) (l:List av):∀ (ys:List ah) (x:ah),cg (λK=>mm2 b x ys λv=>K v l)
 |[],x=>by cases x<;>exact cg.yes _ _
 |At::ys,x=>by
    cases x with
    |int k a=>cases At with|int k' c=>exact cg.and _ (cg.mm2 b l ys _)|_=>exact cg.no
    |_=>cases At<;>exact cg.no
theorem yz {op:kl} (h:J4 op=true):cg (λK=>db w0 Uc sl lh pl K op):=by
 cases op<;>simp only[J4,JN]at h<;>clear h<;>simp only[db]
 case mov=>exact cg.yes _ _
 case pick c x At=>
  cases arg sl c<;>try exact cg.no
  rename_i t
  cases t
  ·exact cg.congr (λK=>⟨λh=>h.2 rfl,λh=>⟨λe=>(by cases e),λ_=>h⟩⟩) (cg.yes (arg sl At) lh)
  ·exact cg.congr (λK=>⟨λh=>h.1 rfl,λh=>⟨λ_=>h,λe=>(by cases e)⟩⟩) (cg.yes (arg sl x) lh)
 case new=>exact cg.place _ _
 case box=>exact cg.and _ (cg.place _ _)
 case agg=>exact cg.parts _ _ λ_=>cg.yes _ _
 case bsl=>exact cg.parts _ _ λ_=>cg.place _ _
 case ld x=>
  cases arg sl x<;>try exact cg.no
  rename_i p
  cases p
  ·exact cg.no
  ·exact cg.ex _ λ_=>cg.yes _ _
 case lds n x=>
  cases arg sl x<;>try exact cg.no
  rename_i p
  cases p
  ·exact cg.no
  ·exact cg.ex _ λ_=>cg.yes _ _
 case isn neg x=>
  cases arg sl x<;>first|exact cg.no|exact cg.yes _ _
 case clr esz z x=>
  cases arg sl x<;>try exact cg.no
  rename_i p n c
  cases p with
  |none=>exact cg.and _ (cg.yes _ _)
  |some p=>
    cases p with
    |g a=>exact cg.and _ (cg.yes _ _)
    |l k off=>
      cases hg:lh[k]? with
      |none=>exact cg.congr (λK=>⟨λ⟨_,_,e,_⟩=>(by rw[hg]at e;cases e),λh=>h.elim⟩) cg.no
      |some ob=>
        cases ob with
        |cells cs ty=>
          refine cg.congr (Ψ:=λK=>n≠0/\off+n*esz<=cs.length/\K (.tup []) (lh.set k (.cells (wr cs off (List.replicate n z).flatten) ty))) (λK=>?_) (cg.and _ (cg.and _ (cg.yes _ _)))
          constructor
          ·rintro⟨cs',ty',e,N,Q,h3⟩
           rw[hg]at e;cases e;exact⟨N,Q,h3⟩
          ·rintro⟨N,Q,h3⟩
           exact⟨cs,ty,hg,N,Q,h3⟩
        |dead=>exact cg.congr (λK=>⟨λ⟨_,_,e,_⟩=>(by rw[hg]at e;cases e),λh=>h.elim⟩) cg.no
        |hid=>exact cg.congr (λK=>⟨λ⟨_,_,e,_⟩=>(by rw[hg]at e;cases e),λh=>h.elim⟩) cg.no
 case st n x At=>
  cases arg sl x<;>try exact cg.no
  rename_i p
  cases p
  ·exact cg.no
  rename_i p
  cases p
  ·rename_i k off
   cases hg:lh[k]? with
   |none=>exact cg.congr (λK=>⟨λ⟨_,_,e,_⟩=>(by rw[hg]at e;cases e),λh=>h.elim⟩) cg.no
   |some ob=>
     cases ob with
     |cells cs ty=>
       refine cg.congr (Ψ:=λK=>(arg sl At).flat=true/\(arg sl At).cells.length=n/\off+n<=cs.length/\K (.tup []) (lh.set k (.cells (wr cs off (arg sl At).cells) ty))) (λK=>?_) (cg.and _ (cg.and _ (cg.and _ (cg.yes _ _))))
       exact⟨λ⟨_,_,e,h⟩=>(by rw[hg]at e;cases e;exact h),λh=>⟨cs,ty,hg,h⟩⟩
     |_=>exact cg.congr (λK=>⟨λ⟨_,_,e,_⟩=>(by rw[hg]at e;cases e),λh=>h.elim⟩) cg.no
  ·exact cg.no
 case nz x=>
  cases arg sl x<;>try exact cg.no
  ·rename_i p
   cases p
   ·exact cg.no
   ·exact cg.yes _ _
  ·rename_i f _ _
   cases f<;>first|exact cg.yes _ _|exact cg.no
 case bin op x At=>
  unfold MB
  cases arg sl x<;>cases arg sl At<;>try exact cg.no
  ·refine cg.and _ ?_
   cases op<;>simp only[rl]<;>first|exact cg.yes _ _|exact cg.and _ (cg.yes _ _)|exact cg.no
  ·cases op<;>simp only[zJ]<;>first|exact cg.yes _ _|exact cg.and _ (cg.yes _ _)|exact cg.no
 case eqa neg n x At=>
  cases arg sl x<;>cases arg sl At<;>try exact cg.no
  exact cg.and _ (cg.ex _ λ_=>cg.yes _ _)
 case eqb neg x At=>
  cases arg sl x<;>cases arg sl At<;>try exact cg.no
  exact cg.yes _ _
 case un op x=>
  cases op<;>cases arg sl x<;>first|exact cg.no|exact cg.yes _ _
 case conv k x=>cases arg sl x<;>first|exact cg.no|exact cg.yes _ _
 case mkf=>exact cg.yes _ _
 case fa off x=>
  cases arg sl x<;>try exact cg.no
  rename_i p
  cases p<;>first|exact cg.no|exact cg.yes _ _
 case fld off n x=>
  cases arg sl x<;>try exact cg.no
  cases n
  ·exact cg.ex _ λ_=>cg.yes _ _
  ·exact cg.yes _ _
 case iaA n esz x ix=>
  cases arg sl x<;>try exact cg.no
  rename_i p
  cases p<;>try exact cg.no
  cases arg sl ix<;>first|exact cg.no|exact cg.and _ (cg.and _ (cg.yes _ _))
 case iaS esz x ix=>
  cases arg sl x<;>try exact cg.no
  cases arg sl ix<;>first|exact cg.no|exact cg.and _ (cg.and _ (cg.ex _ λ_=>cg.yes _ _))
 case ixA n esz sz x ix=>
  cases arg sl x<;>try exact cg.no
  cases arg sl ix<;>try exact cg.no
  refine cg.and _ (cg.and _ ?_)
  cases sz
  ·exact cg.ex _ λ_=>cg.yes _ _
  ·exact cg.yes _ _
 case ixS x ix=>
  cases arg sl x<;>try exact cg.no
  cases arg sl ix<;>first|exact cg.no|exact cg.and _ (cg.and _ (cg.yes _ _))
 case len x=>cases arg sl x<;>first|exact cg.no|exact cg.yes _ _
 case lenT x=>cases arg sl x<;>first|exact cg.no|exact cg.yes _ _
 case lenA=>exact cg.yes _ _
 case mm=>exact cg.mm2 _ _ _ _
 case ext x i=>
  cases arg sl x<;>try exact cg.no
  exact cg.ex _ λ_=>cg.yes _ _
 case slS esz x lo hi mx=>
  cases arg sl x<;>try exact cg.no
  exact cg.bnd _ _ _ λ_=>cg.bnd _ _ _ λ_=>cg.bnd _ _ _ λ_=>cg.yes _ _
 case slA n esz x lo hi mx=>
  cases arg sl x<;>try exact cg.no
  rename_i p
  cases p<;>try exact cg.no
  exact cg.bnd _ _ _ λ_=>cg.bnd _ _ _ λ_=>cg.bnd _ _ _ λ_=>cg.yes _ _
 case slT x lo hi=>
  cases arg sl x<;>try exact cg.no
  exact cg.bnd _ _ _ λ_=>cg.bnd _ _ _ λ_=>cg.yes _ _
 case mks=>exact cg.place _ _
theorem cg.mono {Φ:(ah->List av->Prop)->Prop} (h:cg Φ) {K K':ah->List av->Prop} (hk:∀ v l,K v l->K' v l) (hp:Φ K):Φ K':=by
 let ⟨d,hd⟩:=h
 let ⟨v,l,e,hK⟩:=(hd K).1 hp
 exact(hd K').2 ⟨v,l,e,hk _ _ hK⟩
theorem aeY {ty:TypeId} {esz bytes:Nat} {zero:List ah} {K K':ah->List av->Prop} {x At:ah} (hk:∀ v l,K v l->K' v l) (h:q8 w0 lh pl ty esz bytes zero K x At):q8 w0 lh pl ty esz bytes zero K' x At:=by
 unfold q8 at *
 split at h
 ·rename_i p n c X1 k _
  let ⟨new,N,Q,h3⟩:=h
  refine⟨new,N,λhc=>?_,λhc=>?_⟩
  ·have Q:=Q hc
   cases p with
   |none=>exact hk _ _ Q
   |some p=>cases p with
     |l b off=>let ⟨cs,t,a,b,c,d⟩:=Q;exact⟨cs,t,a,b,c,hk _ _ d⟩
     |g a=>exact⟨Q.1,hk _ _ Q.2⟩
  ·let ⟨old,a,b,c,d⟩:=h3 hc
   exact⟨old,a,b,c,λc' Yg=>aea (λ_ _=>hk _ _) (d c' Yg)⟩
 ·exact h.elim
theorem vw9 {o:av} {X4:Prop} (h:place pl lh o λ_ _=>X4):X4:=by
 cases pl with
 |none=>exact h|some p=>exact h.2
theorem wdV {ty:TypeId} {esz bytes:Nat} {zero:List ah} {X4:Prop} {x At:ah} (h:q8 w0 lh pl ty esz bytes zero (λ_ _=>X4) x At):X4:=by
 unfold q8 at h;split at h
 ·rename_i p n c X1 k _
  let ⟨new,N,Q,h3⟩:=h
  by_cases hc:n+k<=c
  ·have Q:=Q hc
   cases p with
   |none=>exact Q
   |some p=>cases p with
     |l b off=>let ⟨cs,t,a,b,c,d⟩:=Q;exact d
     |g a=>exact Q.2
  ·let ⟨old,a,b,c,d⟩:=h3 I
   exact vw9 (d _ (Dm _))
 ·exact h.elim
theorem dJ {P:Program} (hS:∀ f,(Uc f).Ok P f) {op:kl} {K K':ah->List av->Prop} (hk:∀ v l,K v l->K' v l) (h:db w0 Uc sl lh pl K op):db w0 Uc sl lh pl K' op:=by
 by_cases hd:J4 op=true
 ·exact(yz hd).mono hk h
 ·cases op<;>simp[J4,QE]at hd<;>simp[db]at h ⊢
  case call f xs=>exact(hS f).mono _ _ _ _ _ hk h
  case callv x xs=>
   split at h
   ·exact(hS _).mono _ _ _ _ _ hk h
   ·exact h.elim
  case app=>exact aeY hk h
theorem mz {P:Program} (hS:∀ f,(Uc f).Ok P f) {op:kl} {X4:Prop} (h:db w0 Uc sl lh pl (λ_ _=>X4) op):X4:=by
 by_cases hd:J4 op=true
 ·let ⟨d,hd⟩:=yz (w0:=w0) (Uc:=Uc) (sl:=sl) (lh:=lh) (pl:=pl) hd
  let ⟨_,_,_,hQ⟩:=(hd _).1 h
  exact hQ
 ·cases op<;>simp[J4,QE]at hd<;>simp[db]at h
  case call f xs=>exact(hS f).strict _ _ _ _ h
  case callv x xs=>
   split at h
   ·exact(hS _).strict _ _ _ _ h
   ·exact h.elim
  case app=>exact wdV h
end
end Go.Sx
namespace Go.Sx
def hide (X:List Nat) (lh:List av):List av:=lh.mapIdx λk o=>if k∈X then .hid else o
def mix (XI:List Nat) (lh l:List av):List av:=lh.mapIdx λk o=>if k∈XI then l.getD k o else o
def jC (XI:List Nat) (l h:List av):Prop:=l.length=h.length/\∀k,k∉XI->l[k]? = h[k]?
theorem hide_get (X:List Nat) (lh:List av) (k:Nat):(hide X lh)[k]? = if k∈X then lh[k]?.map (λ_=>.hid) else lh[k]? := by
 unfold hide;rw[QD];split
 ·cases lh[k]? with|none=>rfl|some o=>simp
 ·cases lh[k]? with|none=>rfl|some o=>simp
theorem hide_length (X:List Nat) (lh:List av):(hide X lh).length=lh.length:=by simp[hide]
theorem tj (XI:List Nat) (lh l:List av) (k:Nat):(mix XI lh l)[k]? = if k∈XI then lh[k]?.map (λo=>l.getD k o) else lh[k]? := by
 unfold mix;rw[QD];split
 ·cases lh[k]? with|none=>rfl|some o=>simp
 ·cases lh[k]? with|none=>rfl|some o=>simp
theorem ady (XI:List Nat) (lh l:List av):(mix XI lh l).length=lh.length:=by simp[mix]
theorem ba.unhide {B:dj} {m m':aJ} {lh lh':List av} {w w':World} {X XI:List Nat} (h:ba B m lh w)
 (h':ba ⟨B.w0,w,λb=>∃k cs ty,k∉X/\lh[k]? = some (.cells cs ty)/\m k=some b,B.ds⟩ m' lh' w') (he:iq (hide X lh) m lh' m') (hw:jC XI lh' (hide X lh)) :
 ba B m' (mix XI lh lh') w'/\iq lh m (mix XI lh lh') m':=by
 have hlen:lh'.length=lh.length:=by rw[hw.1,hide_length]
 have hent:∀ k o,(mix XI lh lh')[k]? = some o->(lh'[k]? = some o) ∨ (k ∈ X/\lh[k]? = some o/\lh'[k]? = some .hid):=λk o hk=>by
  rw[tj]at hk;split at hk
  ·cases hl:lh[k]? with
   |none=>rw[hl]at hk;cases hk
   |some o'=>
     rw[hl]at hk;simp at hk;have XD:k<lh'.length:=by rw[hlen];exact(List.getElem?_eq_some_iff.1 hl).1
     left;rw[KO XD]at hk ⊢;simpa using hk
  ·rename_i hkW
   have YP:=hw.2 k hkW;rw[hide_get]at YP;split at YP
   ·rename_i hX;right;exact⟨hX,hk,by rw[YP,hk];rfl⟩
   ·left;rw[YP];exact hk
 have hnoown:∀k cs ty b,k∈X->lh[k]? = some (.cells cs ty)->m k=some b->¬ ∃j cs ty,j∉X/\lh[j]? = some (av.cells cs ty)/\m j=some b:=λk cs ty b hX hk hb ⟨j,cs',ty',hj,hl,Xw⟩=>by exact hj (h.inj j k b cs' cs ty' ty hl hk Xw hb▸hX)
 refine⟨⟨h'.os.trans h.os,h'.tape.trans h.tape,h'.output.trans h.output,h'.size,h'.old,Jc h.fsize h'.fsize,λb hb ho=>?_,λk cs ty hk=>?_,λk k' b cs cs' ty ty' N Q hb Xw=>?_,λk hk=>?_,λk hk=>?_,h'.rng⟩,he.1,λk hk=>?_⟩
 ·rw [h'.kept b (LI hb h.fsize) (λ⟨k,cs,ty,_,hl,hm⟩=>?_)]
  ·exact h.kept b hb ho
  ·let ⟨b',_,Xw,_,_,_,h3⟩:=h.loc k cs ty hl
   rw[hm]at Xw;cases Xw;rcases h3 with h3|h3
   ·omega
   ·exact ho h3
 ·rcases hent k _ hk with hl|⟨hX,hl,_⟩
  ·let ⟨b,vs,hb,Y2,hh,N,Q⟩:=h'.loc k cs ty hl
   refine⟨b,vs,hb,Y2,hh,N,?_⟩;rcases Q with Q|⟨j,cs',ty',hj,bz,wR⟩
   ·exact .inl (Jc h.fsize Q)
   ·let ⟨b',_,Xw,_,_,_,h3⟩:=h.loc j cs' ty' bz
    rw[wR]at Xw;cases Xw;exact h3
  ·let ⟨b,vs,hb,Y2,hh,N,Q⟩:=h.loc k cs ty hl
   refine⟨b,vs,he.1 _ _ hb,cH he.1 _ _ Y2,?_,N,Q⟩;rw[h'.kept b (h.rng k b hb) (hnoown k cs ty b hX hl hb)];exact hh
 ·have mixed:∀ k k' b cs cs' ty ty',lh'[k]? = some (.cells cs ty)->k' ∈ X->lh[k']? = some (.cells cs' ty')->m' k=some b->m' k'=some b->False:=λk k' b cs cs' ty ty' hl hX YM hb Xw=>by
   let ⟨b0,_,Yb,_⟩:=h.loc k' cs' ty' YM
   have e:=he.1 _ _ Yb;rw[Xw]at e;cases e
   let ⟨b1,_,YX,_,_,_,Q⟩:=h'.loc k cs ty hl
   rw[hb]at YX;cases YX;rcases Q with Q|Q
   ·have h3:=h.rng k' b Yb;have h4:w.heap.size<=b:=Q;omega
   ·exact hnoown k' cs' ty' b hX YM Yb Q
  rcases hent k _ N with hl|⟨hX,hl,_⟩<;>rcases hent k' _ Q with YM|⟨vd,YM,_⟩
  ·exact h'.inj k k' b cs cs' ty ty' hl YM hb Xw
  ·exact(mixed k k' b cs cs' ty ty' hl vd YM hb Xw).elim
  ·exact(mixed k' k b cs' cs ty' ty YM hX hl Xw hb).elim
  ·let ⟨b0,_,Yb,_⟩:=h.loc k cs ty hl
   let ⟨b1,_,YX,_⟩:=h.loc k' cs' ty' YM
   have e:=he.1 _ _ Yb;rw[hb]at e;cases e;have e:=he.1 _ _ YX;rw[Xw]at e;cases e;exact h.inj k k' b cs cs' ty ty' hl YM Yb YX
 ·exact h'.dom k (by rw[ady]at hk;omega)
 ·rcases hent k _ hk with hl|⟨hX,hl,YM⟩
  ·exact h'.dead k hl
  ·have hd:=h.dead k hl
   have hh:(hide X lh)[k]? = some .hid:=by rw[hide_get,DL hX,hl];rfl
   rw[(he.2 k hh).2];exact hd
 ·have hh:(hide X lh)[k]? = some .hid:=by
   rw[hide_get];split
   ·rw[hk];rfl
   ·exact hk
  let ⟨N,Q⟩:=he.2 k hh
  refine⟨?_,Q⟩;rw[tj];split
  ·rw[hk];simp[List.getD,N]
  ·exact hk
theorem ba.hide {B:dj} {m:aJ} {lh:List av} {w:World} (h:ba B m lh w) (X:List Nat) :
 ba ⟨B.w0,w,λb=>∃k cs ty,k∉X/\lh[k]? = some (.cells cs ty)/\m k=some b,B.ds⟩ m (hide X lh) w:=by
 have y:∀ k cs ty,(Sx.hide X lh)[k]? = some (.cells cs ty)->k∉X/\lh[k]? = some (.cells cs ty):=λk cs ty hk=>by
  rw[hide_get]at hk;split at hk
  ·cases hl:lh[k]? <;> rw[hl]at hk<;>cases hk
  ·exact⟨aF,hk⟩
 refine⟨rfl,rfl,rfl,h.size,h.old,Dm _,λ_ _ _=>rfl,λk cs ty hk=>?_,λk k' b cs cs' ty ty' N Q hb Xw=>?_,λk hk=>h.dom k (by rw[hide_length]at hk;exact hk),λk hk=>?_,h.rng⟩
 ·let ⟨hX,hl⟩:=y k cs ty hk
  let ⟨b,vs,hb,Y2,hh,N,_⟩:=h.loc k cs ty hl
  exact⟨b,vs,hb,Y2,hh,N,.inr ⟨k,cs,ty,hX,hl,hb⟩⟩
 ·exact h.inj k k' b cs cs' ty ty' (y _ _ _ N).2 (y _ _ _ Q).2 hb Xw
 ·rw[hide_get]at hk;split at hk
  ·cases hl:lh[k]? <;> rw[hl]at hk<;>cases hk
  ·exact h.dead k hk
inductive B8 where|run (v:ah) (l:List av)|skip
def nq (w0:World) (Uc:FuncId->bT) (XI:List Nat) (pl:Option Nat) (o:ia) (sl:List ah) (hl:List av) (K:B8->Prop):Prop :=
 match o.guard with
 |none=>db w0 Uc sl hl pl (λv l=>jC XI l hl/\K (.run v l)) o.op
 |some (d,want)=>
   match sl.getD d .any with
   |.bool b=>(b=want->db w0 Uc sl hl pl (λv l=>jC XI l hl/\K (.run v l)) o.op)/\(b=!want->K .skip)|.tup _=>K .skip|.int ..=>K .skip|_=>False
def jp (o:ia) (sl:List ah):B8->List ah
 |.run v _=>eH sl o.dst v|.skip=>eH sl o.dst (.tup [])
def kc (XI:List Nat) (lh:List av):B8->List av
 |.run _ l=>mix XI lh l|.skip=>lh
def If (w0:World) (Uc:FuncId->bT) (X XI:List Nat) (pl:Option Nat) (o:ia) (sl:List ah) (lh:List av) (K:List ah->List av->Prop):Prop :=
 nq w0 Uc XI pl o sl (hide X lh) λe=>K (jp o sl e) (kc XI lh e)
section
variable {P:Program} {Uc:FuncId->bT} {XI X:List Nat} {pl:Option Nat} {o:ia} {sl sl':List ah} {lh lh' hl:List av} {w0:World}
theorem lJ (hS:∀ f,(Uc f).Ok P f) {K K':B8->Prop} (hk:∀ e,K e->K' e) (h:nq w0 Uc XI pl o sl hl K):nq w0 Uc XI pl o sl hl K':=by
 unfold nq at *
 split
 ·rename_i hg;rw[hg]at h;exact dJ hS (λ_ _ ⟨a,b⟩=>⟨a,hk _ b⟩) h
 ·rename_i d want hg
  rw[hg]at h;dsimp only at h;split at h
  ·exact⟨λe=>dJ hS (λ_ _ ⟨a,b⟩=>⟨a,hk _ b⟩) (h.1 e),λe=>hk _ (h.2 e)⟩
  ·exact hk _ h
  ·exact hk _ h
  ·exact h.elim
theorem mS (hS:∀ f,(Uc f).Ok P f) {X4:Prop} (h:nq w0 Uc XI pl o sl hl λ_=>X4):X4:=by
 unfold nq at h;split at h
 ·exact mz hS (dJ hS (K':=λ_ _=>X4) (λ_ _ ⟨_,b⟩=>b) h)
 ·rename_i d want hg
  split at h
  ·rename_i b _
   by_cases e:b=want
   ·exact mz hS (dJ hS (K':=λ_ _=>X4) (λ_ _ ⟨_,b⟩=>b) (h.1 e))
   ·exact h.2 (by cases b<;>cases want<;>simp_all)
  ·exact h
  ·exact h
  ·exact h.elim
theorem Ag (hd:J4 o.op=true):∃ d:Option B8,∀ K,nq w0 Uc XI pl o sl hl K↔∃ e,d=some e/\K e:=by
 let ⟨d,hd⟩:=yz (w0:=w0) (Uc:=Uc) (sl:=sl) (lh:=hl) (pl:=pl) hd
 have hrun:∃ d':Option B8,∀ K:B8->Prop,db w0 Uc sl hl pl (λv l=>jC XI l hl/\K (.run v l)) o.op↔∃ e,d'=some e/\K e:=by
  cases d with
  |none=>exact⟨none,λK=>(hd _).trans ⟨λ⟨_,_,e,_⟩=>(by cases e),λ⟨_,e,_⟩=>(by cases e)⟩⟩
  |some p=>
    let ⟨v,l⟩:=p
    by_cases hs:jC XI l hl
    ·exact⟨some (.run v l),λK=>(hd _).trans ⟨λ⟨_,_,e,h⟩=>(by cases e;exact⟨_,rfl,h.2⟩),λ⟨_,e,h⟩=>(by cases e;exact⟨v,l,rfl,hs,h⟩)⟩⟩
    ·exact⟨none,λK=>(hd _).trans ⟨λ⟨_,_,e,h⟩=>(by cases e;exact(hs h.1).elim),λ⟨_,e,_⟩=>(by cases e)⟩⟩
 have hskip:∃d':Option B8,∀K:B8->Prop,K .skip↔∃e,d'=some e/\K e:=⟨some .skip,λK=>⟨λh=>⟨_,rfl,h⟩,λ⟨_,e,h⟩=>(by cases e;exact h)⟩⟩;unfold nq;cases hg:o.guard with
 |none=>exact hrun
 |some g=>
   let ⟨t,want⟩:=g
   simp only
   cases y:sl.getD t .any with
   |bool b=>
     simp only
     by_cases e:b=want
     ·let ⟨d',h'⟩:=hrun
      refine⟨d',λK=>⟨λh=>(h' K).1 (h.1 e),λh=>⟨λ_=>(h' K).2 h,λe'=>?_⟩⟩⟩;have:=e.symm.trans e';cases want<;>cases this
     ·let ⟨d',h'⟩:=hskip
      refine⟨d',λK=>⟨λh=>(h' K).1 (h.2 (by clear h h';cases b<;>cases want<;>first|rfl|exact(e rfl).elim)),λh=>⟨λe'=>(e e').elim,λ_=>(h' K).2 h⟩⟩⟩
   |tup _=>exact hskip|int _ _=>exact hskip|_=>exact⟨none,λK=>⟨λh=>h.elim,λ⟨_,e,_⟩=>(by cases e)⟩⟩
end
end Go.Sx
namespace Go.Sx
def kl.args:kl->List fM
 |.mov x|.box _ x|.ld x|.lds _ x|.nz x|.un _ x|.conv _ x|.fa _ x|.fld _ _ x|.len x|.lenT x|.ext x _|.isn _ x|.clr _ _ x=>[x]
 |.pick c a b=>[c,a,b]
 |.new ..|.lenA _|.mks ..=>[]
 |.agg _ ps|.bsl _ _ _ ps=>ps.map (·.2.2)
 |.st _ a x|.bin _ a x|.eqa _ _ a x|.eqb _ a x|.iaA _ _ a x|.iaS _ a x|.ixA _ _ _ a x|.ixS a x|.app _ _ _ _ a x=>[a,x]
 |.mkf _ xs ys=>xs++ys
 |.mm _ x xs=>x::xs
 |.slS _ x lo hi mx|.slA _ _ x lo hi mx=>x::(lo.toList++hi.toList++mx.toList)
 |.slT x lo hi=>x::(lo.toList++hi.toList)
 |.call _ xs=>xs
 |.callv x xs=>x::xs
def p7 (xs:List fM):List Nat:=xs.filterMap λ|.t i=>some i|.k _=>none
def ia.reads (o:ia):List Nat:=p7 o.op.args++(match o.guard with|some (d,_)=>[d]|none=>[])
section
variable {P:Program} {Uc:FuncId->bT} {XI X:List Nat} {pl:Option Nat} {o:ia} {sl sl':List ah} {lh lh' hl:List av} {w0:World}
theorem NuN (ps:List (Nat×Nat×fM)) (K:List ah->Prop) (h:∀ x∈ps.map (·.2.2),arg sl x=arg sl' x):∀ z,parts sl ps z K=parts sl' ps z K:=by
 induction ps with
 |nil=>intro z;rfl
 |cons p ps ih=>
   intro z
   let ⟨off,n,x⟩:=p
   simp[parts];rw[h x aD,ih (λAt hy=>h At (by simp at hy ⊢;exact .inr hy))]
theorem gp {xs:List fM} (h:∀x∈xs,arg sl x=arg sl' x):xs.map (arg sl)=xs.map (arg sl'):=Qn h
theorem d6 {x:Option fM} (h:∀ At∈x.toList,arg sl At=arg sl' At):x.map (arg sl)=x.map (arg sl'):=by
 cases x with
 |none=>rfl|some x=>simp[h x aD]
theorem nE {op:kl} {K:ah->List av->Prop} (h:∀ x∈op.args,arg sl x=arg sl' x):db w0 Uc sl lh pl K op=db w0 Uc sl' lh pl K op:=by
 cases op<;>simp only[kl.args,L8,Mx,or_false,Qq,forall_eq,Q6]at h<;>simp only[db]
 case agg=>exact NuN _ _ h _
 case bsl=>exact NuN _ _ h _
 case mkf f xs ys=>rw[gp (λx hx=>h x (.inl hx)),gp (λx hx=>h x (.inr hx))]
 case mm=>rw[h.1,gp h.2]
 case slS esz x lo hi mx=>rw[h.1,d6 (λAt hy=>h.2 At (.inl (.inl hy))),d6 (λAt hy=>h.2 At (.inl (.inr hy))),d6 (λAt hy=>h.2 At (.inr hy))]
 case slA n esz x lo hi mx=>rw[h.1,d6 (λAt hy=>h.2 At (.inl (.inl hy))),d6 (λAt hy=>h.2 At (.inl (.inr hy))),d6 (λAt hy=>h.2 At (.inr hy))]
 case slT x lo hi=>rw[h.1,d6 (λAt hy=>h.2 At (.inl hy)),d6 (λAt hy=>h.2 At (.inr hy))]
 case call=>rw[gp h]
 case callv=>rw[h.1,gp h.2]
 all_goals first
  |rfl|rw[h]|rw[h.1,h.2]|rw[h.1,h.2.1,h.2.2]
theorem aaF {K:B8->Prop} (h:∀ t∈o.reads,sl.getD t .any=sl'.getD t .any):nq w0 Uc XI pl o sl hl K=nq w0 Uc XI pl o sl' hl K:=by
 have ha:∀ x∈o.op.args,arg sl x=arg sl' x:=λx hx=>by
  cases x with
  |t i=>exact h i (QB _ (List.mem_filterMap.2 ⟨_,hx,rfl⟩))|k v=>rfl
 unfold nq;cases hg:o.guard with
 |none=>exact nE ha
 |some g=>
   let ⟨d,want⟩:=g
   simp only
   rw[h d (by simp[ia.reads,hg]),nE ha]
def m7 (x At:ia):Bool :=
 (match x.dst with|some d=>!At.reads.contains d&&At.dst !=some d|none=>true)&&(match At.dst with|some d=>!x.reads.contains d|none=>true)
theorem nj {x At:ia} (h:m7 x At=true):(∀ d,x.dst=some d->d∉At.reads)/\(∀ d,x.dst=some d->At.dst≠some d)/\(∀ d,At.dst=some d->d∉x.reads):=by
 refine⟨λd hd=>?_,λd hd=>?_,λd hd=>?_⟩<;>simp[m7,hd]at h
 ·exact h.1.1
 ·exact h.1.2
 ·exact h.2
theorem adB {d:Option Nat} {v:ah} {t:Nat} (h:d≠some t):(eH sl d v).getD t .any=sl.getD t .any:=by
 cases d with
 |none=>rfl
 |some d=>simp only[eH];rw[S5,HM,Ck (λe=>h (by rw[e])),← S5]
theorem Rng {x:ia} {e:B8} {t:Nat} (h:x.dst≠some t):(jp x sl e).getD t .any=sl.getD t .any:=by cases e<;>exact adB h
theorem R99 {e:B8} (h:∀ k∈XI,k∈X):hide X (kc XI lh e)=hide X lh:=by
 cases e with
 |skip=>rfl
 |run v l=>
   apply Kk;intro k;rw[hide_get,hide_get];simp[kc];rw[tj];by_cases hX:k∈X
   ·rw[DL hX,DL hX]
    split
    ·cases lh[k]? <;> rfl
    ·rfl
   ·rw[Ck hX,Ck hX,Ck (λhW=>hX (h k hW))]
theorem ru {d d':Option Nat} {u v:ah} (h:∀ k,d=some k->d'≠some k):eH (eH sl d u) d' v=eH (eH sl d' v) d u:=by
 cases d with
 |none=>rfl
 |some d=>cases d' with|none=>rfl|some d'=>exact List.set_comm _ _ (λe=>h d rfl (by rw[e]))
theorem yar {x At:ia} {e e':B8} (h:∀k,x.dst=some k->At.dst≠some k):jp At (jp x sl e) e'=jp x (jp At sl e') e:=by cases e<;>cases e'<;>exact ru h
theorem adz {V:List Nat} {e e':B8} (h:∀ k∈XI,k∉V):kc V (kc XI lh e) e'=kc XI (kc V lh e') e:=by
 cases e with
 |skip=>rfl
 |run v l=>cases e' with
   |skip=>rfl
   |run v' l'=>
     apply Kk;intro k;simp[kc,tj];by_cases hW:k∈XI
     ·simp[hW,h k hW]
     ·simp[hW]
theorem aiO (hS:∀ f,(Uc f).Ok P f) {x At:ia} {X' W':List Nat} {pl':Option Nat} (vi:m7 x At=true) (hdet:J4 x.op=true∨J4 At.op=true) (N:∀ k∈W',k∈X) (Q:∀ k∈XI,k∈X') (h3:∀ k∈XI,k∉W')
 {K:List ah->List av->Prop} (h:If w0 Uc X XI pl x sl lh λYp lh1=>If w0 Uc X' W' pl' At Yp lh1 K):If w0 Uc X' W' pl' At sl lh λYp lh1=>If w0 Uc X XI pl x Yp lh1 K:=by
 let ⟨a1,a2,a3⟩:=nj vi
 have loc1:∀e (K:B8->Prop),nq w0 Uc W' pl' At (jp x sl e) (hide X' (kc XI lh e)) K=nq w0 Uc W' pl' At sl (hide X' lh) K:=λe K=>by rw[R99 Q];exact aaF λt ht=>Rng (λe=>a1 t e ht)
 have loc2:∀e (K:B8->Prop),nq w0 Uc XI pl x (jp At sl e) (hide X (kc W' lh e)) K=nq w0 Uc XI pl x sl (hide X lh) K:=λe K=>by rw[R99 N];exact aaF λt ht=>Rng (λe=>a3 t e ht)
 have comm:∀ex ey,K (jp At (jp x sl ex) ey) (kc W' (kc XI lh ex) ey)↔K (jp x (jp At sl ey) ex) (kc XI (kc W' lh ey) ex):=λex ey=>by rw[yar a2,adz h3]
 unfold If at *
 simp[loc1]at h;simp[loc2];rcases hdet with hd|hd
 ·let ⟨d,hd⟩:=Ag (w0:=w0) (Uc:=Uc) (XI:=XI) (pl:=pl) (sl:=sl) (hl:=hide X lh) hd
  let ⟨ex,hex,h⟩:=(hd _).1 h
  exact lJ hS (λey hK=>(hd _).2 ⟨ex,hex,(comm ex ey).1 hK⟩) h
 ·let ⟨d,hd⟩:=Ag (w0:=w0) (Uc:=Uc) (XI:=W') (pl:=pl') (sl:=sl) (hl:=hide X' lh) hd
  have hsome:∃ey,d=some ey:=mS hS (lJ hS (λex hy=>let ⟨ey,sR,_⟩:=(hd _).1 hy;⟨ey,sR⟩) h)
  let ⟨ey,sR⟩:=hsome
  refine(hd _).2 ⟨ey,sR,lJ hS (λex hy=>?_) h⟩
  let ⟨ey',hey',hK⟩:=(hd _).1 hy
  rw[sR]at hey';cases hey';exact(comm ex ey).1 hK
theorem uE (hS:∀ f,(Uc f).Ok P f) {K K':List ah->List av->Prop} (hk:∀ s l,K s l->K' s l) (h:If w0 Uc X XI pl o sl lh K):If w0 Uc X XI pl o sl lh K' :=
 lJ hS (λ_=>hk _ _) h
end
inductive Np where|fresh (r:Nat)|slot (s:Nat)|load (s off:Nat)
structure hJ where
 o:ia
 rk:Option Nat
 un:List Nat
 ws:List Np
def Un:kl->Bool
 |.st ..|.app ..|.new ..|.box ..|.bsl ..|.mks ..|.clr ..=>true|_=>false
def HZ (Ws:List (List Nat)) (i:Nat):List Nat:=Ws.getD i []
def D4 (Ws:List (List Nat)) (un:List Nat):List Nat:=un.flatMap (HZ Ws)
def AP (w0:World) (Uc:FuncId->bT) (ds:List hJ) (Ws:List (List Nat)) (H i:Nat) (K:List ah->List av->Prop) (sl:List ah) (lh:List av):Prop :=
 match ds[i]? with
 |none=>K sl lh|some d=>If w0 Uc (D4 Ws d.un) (HZ Ws i) (d.rk.map (H+·)) d.o sl lh K
def Dh (w0:World) (Uc:FuncId->bT) (ops:Array Oper) (ds:List hJ) (Ws:List (List Nat)) (H:Nat) (K:List ah->List av->Prop):Nat->Array Bool->List ah->List av->Prop
 |0,listed,sl,lh=>Region.ready .any ops listed=[]/\K sl lh
 | fuel+1,listed,sl,lh=>(Region.ready .any ops listed=[]->K sl lh) /\
    ∀i∈Region.ready .any ops listed,AP w0 Uc ds Ws H i (Dh w0 Uc ops ds Ws H K fuel (listed.setIfInBounds i true)) sl lh
def Dl (ops:Array Oper):Nat->Nat->Nat->Bool
 |0,_,_=>false
 |f+1,j,i=>match ops[j]? with
   |some o=>o.after.toList.any λe=>Region.binds .any e&&(e.on==i||Dl ops f e.on i)
   |none=>false
def qB (ds:List hJ) (i j:Nat):Bool :=
 match ds[i]?,ds[j]? with
 |some x,some At=>m7 x.o At.o&&(J4 x.o.op||J4 At.o.op)&&(!Un At.o.op||x.un.contains j)&&(!Un x.o.op||At.un.contains i)|_,_=>false
def pN (ops:Array Oper) (ds:List hJ):Bool :=
 (List.range ds.length).all λi=>(List.range ds.length).all λj=>i==j||Dl ops ds.length i j||Dl ops ds.length j i||qB ds i j
def xP (ops:Array Oper):Nat->Nat->Array Bool->Bool
 |0,_,listed=>(Region.ready .any ops listed).isEmpty|f+1,k,listed=>(Region.ready .any ops listed).contains k&&xP ops f (k+1) (listed.setIfInBounds k true)
def Hl (ds:List hJ) (Ws:List (List Nat)):Prop:=∀(i:Nat) (d:hJ),ds[i]? = some d->(Un d.o.op=false->HZ Ws i=[])/\∀k∈HZ Ws i,k∉D4 Ws d.un
section
variable {P:Program} {Uc:FuncId->bT} {w0:World} {ops:Array Oper} {ds:List hJ} {Ws:List (List Nat)} {H:Nat} {K:List ah->List av->Prop}
def fY (ops:Array Oper) (listed:Array Bool):Prop:=∀k o,listed.getD k false=true->ops[k]? = some o->∀e∈o.after,Region.binds .any e=true->listed.getD e.on false=true
theorem fk {listed:Array Bool} (hc:fY ops listed) {i:Nat}:∀ (f j:Nat) (o:Oper),ops[j]? = some o->(∀ e∈o.after,Region.binds .any e=true->listed.getD e.on false=true)->Dl ops f j i=true->listed.getD i false=true
 |0,_,_,_,_,h=>by simp[Dl]at h
 |f+1,j,o,ho,hall,h=>by
   simp only[Dl,ho,List.any_eq_true,DD,MX,K8]at h
   let ⟨e,he,hb,h⟩:=h
   have w4:e∈o.after:=by simpa using he
   have hl:=hall e w4 hb;rcases h with rfl|h
   ·exact hl
   ·cases Zm:ops[e.on]? with|none=>cases f<;>simp[Dl,Zm]at h|some o'=>exact fk hc f e.on o' Zm (λe' w4 Xw=>hc e.on o' hl Zm e' w4 Xw) h
theorem ft {listed:Array Bool} (hc:fY ops listed) {i:Nat} (hi:i∈Region.ready .any ops listed):fY ops (listed.setIfInBounds i true):=by
 intro k o hk ho e he hb
 let ⟨_,oi,ZK,hall⟩:=mem_ready.1 hi
 by_cases hki:i=k
 ·subst hki;rw[ZK]at ho;cases ho;exact getD_set_true (hall e he hb)
 ·exact getD_set_true (hc k o (by rwa [getD_set_ne false hki]at hk) ho e he hb)
theorem EL (Z2:Hl ds Ws) {j:Nat} {x At:hJ} (hy:ds[j]? = some At) (h:(!Un At.o.op||x.un.contains j)=true):∀ k∈HZ Ws j,k∈D4 Ws x.un:=by
 intro k hk;cases hw:Un At.o.op with
 |true=>simp[hw]at h;exact List.mem_flatMap.2 ⟨j,h,hk⟩
 |false=>rw[(Z2 j At hy).1 hw]at hk;cases hk
theorem uQ (hS:∀ f,(Uc f).Ok P f) {i:Nat} {K K':List ah->List av->Prop} (hk:∀ s l,K s l->K' s l) {sl:List ah} {lh:List av} (h:AP w0 Uc ds Ws H i K sl lh):AP w0 Uc ds Ws H i K' sl lh:=by
 unfold AP at *
 split at h
 ·exact hk _ _ h
 ·exact uE hS hk h
theorem agI (hS:∀ f,(Uc f).Ok P f) (hw:Hl ds Ws) {i j:Nat} (hg:qB ds i j=true) {K:List ah->List av->Prop} {sl:List ah} {lh:List av}
 (h:AP w0 Uc ds Ws H i (AP w0 Uc ds Ws H j K) sl lh):AP w0 Uc ds Ws H j (AP w0 Uc ds Ws H i K) sl lh:=by
 unfold qB at hg;split at hg
 ·rename_i x At hx hy
  simp only[DD]at hg
  let ⟨⟨⟨g1,g2⟩,g3⟩,g4⟩:=hg
  unfold AP at h ⊢;simp only[hx,hy]at h ⊢;have s1:=EL (x:=x) hw hy g3;have s2:=EL (x:=At) hw hx g4;exact aiO hS g1 (by simpa using g2) s1 s2 (λk hk YP=>(hw i x hx).2 k hk (s1 k YP)) h
 ·cases hg
theorem aeH (hS:∀ f,(Uc f).Ok P f) (hw:Hl ds Ws) (hp:pN ops ds=true) (hlen:ds.length=ops.size) {i:Nat}:∀ (fuel:Nat) (listed:Array Bool) (sl:List ah) (lh:List av),fY ops listed->i∈Region.ready .any ops listed ->
 AP w0 Uc ds Ws H i (Dh w0 Uc ops ds Ws H K fuel (listed.setIfInBounds i true)) sl lh->Dh w0 Uc ops ds Ws H K (fuel+1) listed sl lh:=by
 have good:∀ (listed:Array Bool) (j:Nat),fY ops listed->i∈Region.ready .any ops listed->j∈Region.ready .any ops listed->j≠i->qB ds i j=true:=λlisted j hc hi hj Yf=>by
  let ⟨ui,oi,ZK,ai⟩:=mem_ready.1 hi
  let ⟨uj,oj,a₂,aj⟩:=mem_ready.1 hj
  have li:i<ds.length:=by rw[hlen];exact(Array.getElem?_eq_some_iff.1 ZK).1
  have lj:j<ds.length:=by rw[hlen];exact(Array.getElem?_eq_some_iff.1 a₂).1
  simp only[pN,OC,List.mem_range]at hp;have:=hp i li j lj;simp only[MX,K8]at this;have no:∀ {x:Nat},listed.getD x true=false->listed.getD x false=true->False:=λ{x} N Q=>by
   rcases M3 x listed.size with h|h
   ·simp[h]at N Q;rw[N]at Q;cases Q
   ·simp[Qt h]at N
  rcases this with ((h|h)|h)|h
  ·exact(Yf h.symm).elim
  ·exact(no uj (fk hc _ i oi ZK ai h)).elim
  ·exact(no ui (fk hc _ j oj a₂ aj h)).elim
  ·exact h
 intro fuel;induction fuel with
 |zero=>
   intro listed sl lh hc hi X9;refine⟨λh=>(by rw[h]at hi;cases hi),λj hj=>?_⟩;by_cases Ye:j=i
   ·subst Ye;exact X9
   ·exfalso
    have hr:=ready_mono hj Ye;have hnil:Region.ready .any ops (listed.setIfInBounds i true)=[]:=by
     have:AP w0 Uc ds Ws H i (λ_ _=>Region.ready .any ops (listed.setIfInBounds i true)=[]) sl lh:=uQ hS (λ_ _ h=>h.1) X9;unfold AP at this;split at this
     ·exact this
     ·exact mS hS this
    rw[hnil]at hr;cases hr
 |succ fuel ih=>
   intro listed sl lh hc hi X9;refine⟨λh=>(by rw[h]at hi;cases hi),λj hj=>?_⟩;by_cases Ye:j=i
   ·subst Ye;exact X9
   ·have N:AP w0 Uc ds Ws H i (AP w0 Uc ds Ws H j (Dh w0 Uc ops ds Ws H K fuel ((listed.setIfInBounds i true).setIfInBounds j true))) sl lh :=
     uQ hS (λs l h=>h.2 j (ready_mono hj Ye)) X9
    have Q:=agI hS hw (good listed j hc hi hj Ye) N;refine uQ hS (λs l h=>ih _ s l (ft hc hj) (ready_mono hi (Ne.symm Ye)) ?_) Q;rw[S7 _ _ Ye];exact h
def jk (w0:World) (Uc:FuncId->bT) (Ws:List (List Nat)) (H:Nat) (K:List ah->List av->Prop):List hJ->Nat->List ah->List av->Prop
 |[],_,sl,lh=>K sl lh|d::rest,i,sl,lh=>If w0 Uc (D4 Ws d.un) (HZ Ws i) (d.rk.map (H+·)) d.o sl lh (jk w0 Uc Ws H K rest (i+1))
theorem me (hS:∀ f,(Uc f).Ok P f) (hw:Hl ds Ws) (hp:pN ops ds=true) (hlen:ds.length=ops.size):∀ (l:List hJ) (k:Nat) (listed:Array Bool) (sl:List ah) (lh:List av),(∀ j,l[j]? = ds[k+j]?) ->
 xP ops l.length k listed=true->fY ops listed->jk w0 Uc Ws H K l k sl lh->Dh w0 Uc ops ds Ws H K l.length listed sl lh
 |[],_,_,_,_,_,hB,_,h=>⟨by simpa[xP] using hB,h⟩
 |d::l,k,listed,sl,lh,hl,hB,hc,h=>by
   have h0:ds[k]? = some d:=by simpa using(hl 0).symm
   simp[MN,xP,DD]at hB
   let ⟨hr,hB'⟩:=hB
   have ca:k∈Region.ready .any ops listed:=by simpa using hr
   refine aeH hS hw hp hlen l.length listed sl lh hc ca ?_;unfold AP;simp[h0];refine uE hS (λs l' h=>?_) h;exact me hS hw hp hlen l (k+1) _ s l' (λj=>by have:=hl (j+1);simpa[N1,PD 1 j] using this) hB' (ft hc ca) h
end
end Go.Sx
namespace Go.Sx
mutual
def ren (τ:Nat->Nat):ah->ah
 |.ptr (some (.l k off))=>.ptr (some (.l (τ k) off))|.slice (some (.l k off)) n c=>.slice (some (.l (τ k) off)) n c|.fn f xs ys=>.fn f (ve τ xs) (ve τ ys)|.agg cs=>.agg (ve τ cs)|.tup cs=>.tup (ve τ cs)|a=>a
def ve (τ:Nat->Nat):List ah->List ah
 |[]=>[]|a::l=>ren τ a::ve τ l
end
mutual
def km (p:Nat->Prop):ah->Prop
 |.ptr (some (.l k _))=>p k|.slice (some (.l k _)) _ _=>p k|.fn _ xs ys=>jd p xs/\jd p ys|.agg cs=>jd p cs|.tup cs=>jd p cs|_=>True
def jd (p:Nat->Prop):List ah->Prop
 |[]=>True|a::l=>km p a/\jd p l
end
mutual
theorem AI {m m1:aJ} {τ:Nat->Nat} {p:Nat->Prop} (h:∀ k b,p k->m (τ k)=some b->m1 k=some b):∀ (a:ah) (v:Value),km p a->CL m (ren τ a) v->CL m1 a v
 |.int ..,_,_,y=>by simp[ren,CL]at y ⊢;exact y
 |.bool ..,_,_,y=>by simp[ren,CL]at y ⊢;exact y
 |.str ..,_,_,y=>by simp[ren,CL]at y ⊢;exact y
 |.ptr none,_,_,y=>by simp[ren,CL,dR]at y ⊢;exact y
 |.ptr (some (.g _)),_,_,y=>by simp[ren,CL,dR]at y ⊢;exact y
 |.ptr (some (.l k off)),_,hp,y=>by
   simp[km]at hp;simp[ren,CL,dR]at y ⊢
   let ⟨X1,N,b,Q,h3⟩:=y
   exact⟨X1,N,b,h k b hp Q,h3⟩
 |.slice none _ _,_,_,y=>by simp[ren,CL,dR]at y ⊢;exact y
 |.slice (some (.g _)) _ _,_,_,y=>by simp[ren,CL,dR]at y ⊢;exact y
 |.slice (some (.l k off)) _ _,_,hp,y=>by
   simp[km]at hp;simp[ren,CL,dR]at y ⊢
   let ⟨X1,N,b,Q,h3⟩:=y
   exact⟨X1,N,b,h k b hp Q,h3⟩
 |.fn _ xs ys,_,hp,y=>by simp[km]at hp;simp[ren,CL]at y ⊢;let ⟨us,vs,N,Q,h3⟩:=y;exact⟨us,vs,N,lH h xs _ hp.1 Q,lH h ys _ hp.2 h3⟩
 |.agg cs,_,hp,y=>by simp[km]at hp;simp[ren,CL]at y ⊢;let ⟨vs,N,Q⟩:=y;exact⟨vs,N,lH h cs _ hp Q⟩
 |.tup cs,_,hp,y=>by simp[km]at hp;simp[ren,CL]at y ⊢;let ⟨vs,N,Q⟩:=y;exact⟨vs,N,lH h cs _ hp Q⟩
 |.raw _,_,_,y=>by simp[ren,CL]at y ⊢;exact y
 |.any,_,_,_=>by simp[CL]
theorem lH {m m1:aJ} {τ:Nat->Nat} {p:Nat->Prop} (h:∀ k b,p k->m (τ k)=some b->m1 k=some b):∀ (az:List ah) (vs:List Value),jd p az->aC m (ve τ az) vs->aC m1 az vs
 |[],_,_,y=>by simp[ve,aC]at y ⊢;exact y
 |a::az,_,hp,y=>by simp[jd]at hp;simp[ve,aC]at y ⊢;let ⟨u,us,N,Q,h3⟩:=y;exact⟨u,us,N,AI h a u hp.1 Q,lH h az us hp.2 h3⟩
end
def lw:List ah->List ah->Prop
 |[],[]=>True|a::l,a'::l'=>(a=.any∨a'=a)/\lw l l'|_,_=>False
theorem aaf {m:aJ}:∀ {l l':List ah} {vs:List Value},lw l l'->aC m l' vs->aC m l vs
 |[],[],_,_,h=>h
 |a::l,a'::l',vs,hs,h=>by
   simp[lw]at hs;simp[aC]at h ⊢;obtain⟨u,us,rfl,N,Q⟩:=h;refine⟨u,us,rfl,?_,aaf hs.2 Q⟩;rcases hs.1 with rfl|rfl
   ·simp[CL]
   ·exact N
 |[],_::_,_,h,_=>by simp[lw]at h
 |_::_,[],_,h,_=>by simp[lw]at h
def kV (p:Nat->Prop) (τ:Nat->Nat):List ah->List ah->Prop
 |[],[]=>True|a::l,a'::l'=>(a=.any∨(km p a/\a'=ren τ a))/\kV p τ l l'|_,_=>False
theorem o9 {m m1:aJ} {p:Nat->Prop} {τ:Nat->Nat} (hm:∀ k b,p k->m (τ k)=some b->m1 k=some b):∀ {l l':List ah} {vs:List Value},kV p τ l l'->aC m l' vs->aC m1 l vs
 |[],[],_,_,h=>by simp[aC]at h ⊢;exact h
 |a::l,a'::l',vs,hs,h=>by
   simp[kV]at hs;simp[aC]at h ⊢;obtain⟨u,us,rfl,N,Q⟩:=h;refine⟨u,us,rfl,?_,o9 hm hs.2 Q⟩;rcases hs.1 with rfl|⟨h3,rfl⟩
   ·simp[CL]
   ·exact AI hm a u h3 N
 |[],_::_,_,h,_=>by simp[kV]at h
 |_::_,[],_,h,_=>by simp[kV]at h
def isCells:Option av->Bool
 |some (.cells ..)=>true|_=>false
def Pd (nb:Nat) (lh:List av) (k:Nat):Prop:=k<nb∨isCells lh[k]? = true
structure ajX (nb:Nat) (τ:Nat->Nat) (sl:List ah) (lh:List av) (Yp:List ah) (lh1:List av):Prop where
 fix:∀k,k<nb->τ k=k
 len:nb<=lh1.length
 same:∀k,k<nb->isCells lh1[k]? = false->lh1[k]? = lh[k]?
 slots:kV (Pd nb lh1) τ Yp sl
 heap:∀k cs ty,lh1[k]? = some (.cells cs ty)->∃cs',lh[τ k]? = some (.cells cs' ty)/\kV (Pd nb lh1) τ cs cs'
 inj:∀k k',isCells lh1[k]? = true->isCells lh1[k']? = true->τ k=τ k'->k=k'
def Sub (nb:Nat) (sl:List ah) (lh:List av) (Yp:List ah) (lh1:List av):Prop:=(lh1=lh/\lw Yp sl)∨∃τ,ajX nb τ sl lh Yp lh1
def mO (nb:Nat) (lh:List av) (m:aJ) (lh':List av) (m':aJ):Prop :=
 (∀k b,k < nb->m k=some b->m' k=some b)/\∀k,k < nb->lh[k]? = some .hid->lh'[k]? = some .hid/\m' k=m k
theorem mO.refl (nb:Nat) (lh:List av) (m:aJ):mO nb lh m lh m:=⟨λ_ _ _ h=>h,λ_ _ h=>⟨h,rfl⟩⟩
theorem mO.trans {nb:Nat} {l1 l2 l3:List av} {m1 m2 m3:aJ} (h:mO nb l1 m1 l2 m2) (k:mO nb l2 m2 l3 m3):mO nb l1 m1 l3 m3 :=
 ⟨λj b hj hb=>k.1 j b hj (h.1 j b hj hb),λj hj hl=>⟨(k.2 j hj (h.2 j hj hl).1).1,((k.2 j hj (h.2 j hj hl).1).2).trans (h.2 j hj hl).2⟩⟩
theorem iq.toN {lh lh':List av} {m m':aJ} (h:iq lh m lh' m') (nb:Nat):mO nb lh m lh' m':=⟨λk b _ hb=>h.1 k b hb,λk _ hl=>h.2 k hl⟩
section
variable {B:dj}
theorem Sub.rel {nb:Nat} {m:aJ} {sl Yp:List ah} {lh lh1:List av} {a:Act} {w:World} (hs:Sub nb sl lh Yp lh1) (h:i9 B m sl lh a w) :
 ∃m1,i9 B m1 Yp lh1 a w/\mO nb lh m lh1 m1:=by
 rcases hs with ⟨rfl,hs⟩|⟨τ,hs⟩
 ·exact⟨m,⟨aaf hs h.1,h.2.1,h.2.2⟩,mO.refl _ _ _⟩
 ·let m1 : aJ:=λk=>if k<nb then m k else if isCells lh1[k]? then m (τ k) else none
  have hm:∀ k b,Pd nb lh1 k->m (τ k)=some b->m1 k=some b:=λk b hk hb=>by
   simp[m1];split
   ·rename_i XD;rw[hs.fix k XD]at hb;exact hb
   ·rename_i XD
    rcases hk with hk|hk
    ·exact(XD hk).elim
    ·rw[DL hk];exact hb
  have Zl:∀ k b,m1 k=some b->m (τ k)=some b:=λk b hb=>by
   simp[m1]at hb;split at hb
   ·rename_i XD;rw[hs.fix k XD];exact hb
   ·split at hb
    ·exact hb
    ·cases hb
  let ⟨N,Q,h3⟩:=h
  refine⟨m1,⟨o9 hm hs.slots N,Q,⟨h3.os,h3.tape,h3.output,h3.size,h3.old,h3.fsize,h3.kept,λk cs ty hk=>?_,λk k' b cs cs' ty ty' g1 g2 hb Xw=>?_,λk hk=>?_,λk hk=>?_,λk b hk=>h3.rng _ b (Zl k b hk)⟩⟩,λk b hk hb=>?_,λk hk hl=>?_⟩
  ·let ⟨cs',hl,hsub⟩:=hs.heap k cs ty hk
   let ⟨b,vs,hb,Y2,hh,hx⟩:=h3.loc (τ k) cs' ty hl
   exact⟨b,vs,hm k b (.inr (by rw[hk];rfl)) hb,o9 hm hsub Y2,hh,hx⟩
  ·let ⟨c1,pr,_⟩:=hs.heap k cs ty g1
   let ⟨c2,wN,_⟩:=hs.heap k' cs' ty' g2
   exact hs.inj k k' (by rw[g1];rfl) (by rw[g2];rfl) (h3.inj _ _ b c1 c2 ty ty' pr wN (Zl k b hb) (Zl k' b Xw))
  ·have hn:¬ k<nb:=by have:=hs.len;omega
   simp[m1];rw[Ck hn,IP hk];rfl
  ·simp [m1]
   split
   ·rename_i XD;have:=hs.same k XD (by rw[hk];rfl);exact h3.dead k (by rw[← this];exact hk)
   ·rw[hk];rfl
  ·simp[m1];rw[DL hk];exact hb
  ·have hc:isCells lh1[k]? = false:=by
    cases hc:isCells lh1[k]? with
    |false=>rfl
    |true=>
      exfalso;generalize hg:lh1[k]? = g at hc;cases g with
      |none=>cases hc
      |some ob=>cases ob with
        |cells cs ty=>
          let ⟨cs',YM,_⟩:=hs.heap k cs ty hg
          rw[hs.fix k hk,hl]at YM;cases YM
        |_=>cases hc
   exact⟨by rw[hs.same k hk hc];exact hl,by simp only[m1];rw[DL hk]⟩
end
def VS:kl->Bool
 |.new ..|.box ..|.bsl ..|.app ..|.mks ..=>true|_=>false
def vE:ah->List Nat
 |.ptr (some (.l k _))=>[k]|.slice (some (.l k _)) _ _=>[k]|_=>[]
def look (xs : List ia) (rks:List (Option Nat)):Nat->Nat->fM->List Np
 |0,_,_=>[]|_+1,_,.k _=>[]
 |f+1,n,.t s=>match (xs.take n).findIdx? (λx=>x.dst==some s) with
   |none=>[.slot s]
   |some i=>match xs[i]? with
     |none=>[]
     |some x=>match x.op with
       |.new ..|.box ..|.bsl ..|.mks ..=>(match rks.getD i none with|some r=>[.fresh r]|none=>[])|.fa _ a|.iaA _ _ a _|.iaS _ a _|.nz a|.mov a|.slS _ a ..=>look xs rks f i a|.app _ _ _ _ a _=>look xs rks f i a++(match rks.getD i none with|some r=>[.fresh r]|none=>[])
       |.ld (.t p)=>match (xs.take i).findIdx? (λx=>x.dst==some p) with
         |none=>[.load p 0]
         |some j=>match xs[j]? with
           |some At=>match At.op with|.fa off (.t X1)=>[.load X1 off]|_=>[]
           |none=>[]
       |_=>[]
def Qw (w0:World) (lh:List av) (sl:List ah) (H:Nat):Np->List Nat
 |.fresh r=>[H+r]|.slot s=>vE (sl.getD s .any)
 |.load s off=>match sl.getD s .any with
   |.ptr (some p)=>match ld w0 lh (p.add off) with|some v=>vE v|none=>[]
   |_=>[]
def r8 (w0:World) (lh:List av) (sl:List ah) (H:Nat):List Np->List Nat
 |[]=>[]|x::l=>Qw w0 lh sl H x++r8 w0 lh sl H l
def kB (w0:World) (lh:List av) (sl:List ah) (H:Nat):List hJ->List (List Nat)
 |[]=>[]|d::l=>r8 w0 lh sl H d.ws::kB w0 lh sl H l
theorem nU (w0:World) (lh:List av) (sl:List ah) (H:Nat):∀ (l:List hJ) (i:Nat),(kB w0 lh sl H l).getD i []=match l[i]? with|some d=>r8 w0 lh sl H d.ws|none=>[]
 |[],i=>by simp[kB]
 |d::l,0=>by simp[kB]
 |d::l,i+1=>by simp[kB,Jv];rw[← nU w0 lh sl H l i];simp[List.getD]
def Ga (k:Nat):List Nat->Prop
 |[]=>True|x::l=>k≠x/\Ga k l
def NW:List Nat->List Nat->Prop
 |[],_=>True|k::l,X=>Ga k X/\NW l X
theorem adI {k:Nat}:∀ {l:List Nat},Ga k l->k∉l
 |[],_=>by simp
 |x::l,h=>by simp[Ga]at h;simp[L8,not_or];exact⟨h.1,adI h.2⟩
theorem AO:∀ {l X:List Nat},NW l X->∀ k∈l,k∉X
 |[],_,_,k,hk=>by cases hk
 |x::l,X,h,k,hk=>by
   simp[NW]at h;rcases List.mem_cons.1 hk with rfl|hk
   ·exact adI h.1
   ·exact AO h.2 k hk
def BG (Ws:List (List Nat)):List hJ->Nat->Prop
 |[],_=>True|d::l,i=>NW (HZ Ws i) (D4 Ws d.un)/\BG Ws l (i+1)
theorem mY {ds:List hJ} {Ws:List (List Nat)}:∀ (l:List hJ) (k:Nat),(∀ j,l[j]? = ds[k+j]?)->BG Ws l k->∀ (i:Nat) (d:hJ),ds[k+i]? = some d->∀ x∈HZ Ws (k+i),x∉D4 Ws d.un
 |[],k,hl,_,i,d,hd=>by have:=hl i;rw[hd]at this;simp at this
 |e::l,k,hl,h,i,d,hd=>by
   simp[BG]at h;cases i with
   |zero=>have h0:=hl 0;simp[M1]at hd h0 ⊢;rw[hd]at h0;simp at h0;subst h0;exact AO h.1
   |succ i=>have:=mY l (k+1) (λj=>by have:=hl (j+1);simpa[N1,PD 1 j] using this) h.2 i d (by rw[show k+1+i=k+(i+1) from by omega];exact hd);rw[show k+1+i=k+(i+1) from by omega]at this;exact this
def MJ (ds:List hJ):Nat:=(ds.filter λd=>VS d.o.op).length
def ma (w0:World) (Uc:FuncId->bT) (ds:List hJ) (sl:List ah) (lh:List av) (K:List ah->List av->Prop):Prop :=
 BG (kB w0 lh sl lh.length ds) ds 0/\jk w0 Uc (kB w0 lh sl lh.length ds) lh.length K ds 0 sl (lh++List.replicate (MJ ds) .dead)
def cz:List ia->Nat->List (Option Nat)
 |[],_=>[]|x::l,r=>if VS x.op then some r::cz l (r+1) else none::cz l r
def gS (ops:Array Oper) (xs:List ia) (rks:List (Option Nat)):List ia->Nat->List hJ
 |[],_=>[]
 | x::l,i=>⟨x,rks.getD i none,(List.range xs.length).filter λj=>j != i&&(match xs[j]? with|some At=>Un At.op|none=>false)&&!Dl ops xs.length i j&&!Dl ops xs.length j i,
    match x.op with
    |.new ..|.box ..|.bsl ..|.mks ..=>(match rks.getD i none with|some r=>[.fresh r]|none=>[])|.st _ a _=>look xs rks 8 i a|.clr _ _ a=>look xs rks 8 i a|.app _ _ _ _ a _=>look xs rks 8 i a++(match rks.getD i none with|some r=>[.fresh r]|none=>[])|_=>[]⟩::gS ops xs rks l (i+1)
def pL (P:Program) (BD:List TypeId) (ops:Array Oper):Option (List hJ) :=
 match fq P BD ops ops.toList with
 |none=>none
 |some xs=>
   if P.follows .mixedOrders&&pN ops (gS ops xs (cz xs 0) xs 0)&&xP ops (gS ops xs (cz xs 0) xs 0).length 0 (Array.replicate ops.size false)&&(gS ops xs (cz xs 0) xs 0).length==ops.size &&
    (gS ops xs (cz xs 0) xs 0).all (λd=>Un d.o.op||d.ws.isEmpty) then some (gS ops xs (cz xs 0) xs 0) else none
theorem vV (ops:Array Oper) (xs:List ia) (rks:List (Option Nat)):∀ (l:List ia) (i j:Nat),(gS ops xs rks l i)[j]?.map hJ.o=l[j]?
 |[],_,_=>by simp[gS]
 |x::l,i,0=>by simp[gS]
 |x::l,i,j+1=>by simp[gS,Jv];exact vV ops xs rks l _ j
section
variable {P:Program} {B:dj} {Uc:FuncId->bT} {BD:List TypeId} {F:Fence} {n:Nat} {ops:Array Oper} {ds:List hJ} {Ws:List (List Nat)}
theorem kw:∀ (l:List Oper) (xs:List ia) (j:Nat) (o:Oper),fq P BD ops l=some xs->l[j]? = some o->∃ x,xs[j]? = some x/\ke P BD ops o=some x
 |[],_,_,_,_,h=>by simp at h
 |a::l,xs,j,o,hc,h=>by
   simp[fq]at hc;split at hc
   ·rename_i x xs' hx Ys
    cases hc;cases j with
    |zero=>simp at h;subst h;exact⟨x,rfl,hx⟩|succ j=>exact kw l xs' j o Ys (by simpa using h)
   ·cases hc
theorem adG (hF:jT F) (hS:∀ f,(Uc f).Ok P f) (hE:∀ t∈BD,dc P t) {X XI:List Nat} {pl:Option Nat} {o:Oper} {x:ia} {i:Nat} (ho:ops[i]? = some o) (hx:ke P BD ops o=some x)
 {K:List ah->List av->Prop} {K':Act->World->Prop} {X4:Exit->Act->World->Prop} {sl:List ah} {lh:List av} {m:aJ} {a:Act} {w:World} (hs:i9 B m sl lh a w) (h:If B.w0 Uc X XI pl x sl lh K)
 (hK:∀sl' lh' m' a' w',i9 B m' sl' lh' a' w'->iq lh m lh' m'->K sl' lh'->K' a' w'):wpOpIn F n P ops X4 i K' a w:=by
 have hSS:∀f,(Uc f).Sound P f:=λf=>(hS f).sound
 have run:∀ {j:kl} (hj:ip P BD o=some j),x.op=j->x.dst=o.dst->db B.w0 Uc sl (hide X lh) pl (λv l=>jC XI l (hide X lh)/\K (jp x sl (.run v l)) (kc XI lh (.run v l))) j ->
  o.wpIn F n P a w K' X4:=λ{j} hj e1 e2 y=>by
  have hres:=nM (B:=⟨B.w0,w,λb=>∃k cs ty,k∉X/\lh[k]? = some (.cells cs ty)/\m k=some b,B.ds⟩) hSS hE hj hs.1 (hs.2.2.hide X) y;refine iF hF hj hres λv w' ⟨r,m',lh',N,Q,h3,h4,h5⟩=>?_
  let ⟨g1,g2⟩:=hs.2.2.unhide h3 Q h4
  simp[jp,e2]at h5;exact hK _ _ m' _ _ (hs.put g2.1 g1 o.dst N) g2 h5
 have skip:∀(e2:x.dst=o.dst),K (jp x sl .skip) lh->K' (a.put o.dst undef) w:=λe2 hk=>by simp[jp,e2]at hk;exact hK _ _ m _ _ (hs.put (aJ.le_refl m) hs.2.2 o.dst (by simp[CL,aC,undef])) (iq.refl _ _) hk
 unfold wpOpIn;simp[ho];unfold If nq at h;unfold ke at hx;split at hx
 ·rename_i j hj hg;cases hx;dsimp only at h;rw[DL (by simp[Region.wanted,hg])];exact run hj rfl rfl h
 ·rename_i j evAsm want hj hg
  split at hx
  ·rename_i d hd
   cases hx;dsimp only at h
   let ⟨y1,y2,y3⟩:=pH (ops:=ops) hs.1 hd
   split at h
   ·rename_i b hb
    have hy:=y1 b hb;by_cases e₂:b=want
    ·subst e₂;rw[DL (by simp[Region.wanted,hg,hy])];exact run hj rfl rfl (h.1 rfl)
    ·rw[Ck (by simp[Region.wanted,hg,hy,e₂])];exact⟨λf _=>hF.fn f,skip rfl (h.2 (by cases b<;>cases want<;>simp_all))⟩
   ·rename_i vs hb;rw[Ck (by simp[Region.wanted,hg,y2 _ hb])];exact⟨λf _=>hF.fn f,skip rfl h⟩
   ·rename_i hb;rw[Ck (by simp[Region.wanted,hg,y3 _ _ hb])];exact⟨λf _=>hF.fn f,skip rfl h⟩
   ·exact h.elim
  ·cases hx
 ·cases hx
theorem aaO (hF:jT F) (hS:∀ f,(Uc f).Ok P f) (hE:∀ t∈BD,dc P t) {H:Nat} {xs:List ia} (hc:fq P BD ops ops.toList=some xs) (hd:∀ j:Nat,ds[j]?.map hJ.o=xs[j]?)
 {K:List ah->List av->Prop} {X4:Exit->Act->World->Prop} {lh0:List av} {m0:aJ} (hQ:∀sl' lh' m' a' w',i9 B m' sl' lh' a' w'->iq lh0 m0 lh' m'->K sl' lh'->X4 .normal a' w') :
 ∀(fuel:Nat) (listed:Array Bool) (sl:List ah) (lh:List av) (m:aJ) (a:Act) (w:World),i9 B m sl lh a w->iq lh0 m0 lh m->Dh B.w0 Uc ops ds Ws H K fuel listed sl lh->wpAnyIn F n P .any ops X4 fuel listed a w
 |0,_,_,_,_,_,_,hs,he,h=>⟨h.1,hQ _ _ _ _ _ hs he h.2⟩
 |fuel+1,listed,sl,lh,m,a,w,hs,he,h=>by
   refine⟨λhr=>hQ _ _ _ _ _ hs he (h.1 hr),λi hi=>?_⟩;have Q:=h.2 i hi
   let ⟨_,o,ho,_⟩:=mem_ready.1 hi
   let ⟨x,hx,Zx⟩:=kw ops.toList xs i o hc (by simpa using ho)
   have Z0:=hd i;rw[hx]at Z0;simp[HG]at Z0
   let ⟨d,Za,ZH⟩:=Z0
   unfold AP at Q;simp[Za]at Q;rw[ZH]at Q;exact adG hF hS hE ho Zx hs Q λsl' lh' m' a' w' h3 h4 h5=>aaO hF hS hE hc hd hQ fuel _ sl' lh' m' a' w' h3 (he.trans h4) h5
theorem ba.deads {m:aJ} {lh:List av} {w:World} (h:ba B m lh w) (k:Nat):ba B m (lh++List.replicate k .dead) w:=by
 have hg:∀ j o,(lh++List.replicate k av.dead)[j]? = some o->lh[j]? = some o∨(lh.length<=j/\o=.dead):=λj o hj=>by
  rw[JS]at hj;split at hj
  ·exact .inl hj
  ·rename_i XD
   right;rw[List.getElem?_replicate]at hj;split at hj
   ·cases hj;exact⟨I,rfl⟩
   ·cases hj
 refine⟨h.os,h.tape,h.output,h.size,h.old,h.fsize,h.kept,λj cs ty hj=>?_,λj j' b cs cs' ty ty' N Q hb Xw=>?_,λj hj=>h.dom j (by simp at hj;omega),λj hj=>?_,h.rng⟩
 ·rcases hg j _ hj with hl|⟨_,e⟩
  ·exact h.loc j cs ty hl
  ·cases e
 ·rcases hg j _ N with hl|⟨_,e⟩
  ·rcases hg j' _ Q with YM|⟨_,e⟩
   ·exact h.inj j j' b cs cs' ty ty' hl YM hb Xw
   ·cases e
  ·cases e
 ·rcases hg j _ hj with hl|⟨Y3,_⟩
  ·exact h.dead j hl
  ·exact h.dom j Y3
theorem C84 (hF:jT F) (hS:∀ f,(Uc f).Ok P f) (hE:∀ t∈BD,dc P t) {id:Nat} (hc:pL P BD ops=some ds) {K:List ah->List av->Prop} {X4:Exit->Act->World->Prop} {sl:List ah} {lh:List av} {m:aJ} {a:Act} {w:World}
 (hs:i9 B m sl lh a w) (h:ma B.w0 Uc ds sl lh K) (hQ:∀sl' lh' m' a' w',i9 B m' sl' lh' a' w'->iq lh m lh' m'->K sl' lh'->X4 .normal a' w'):(Code.region id ops true).wpIn F n P X4 a w:=by
 unfold pL at hc;split at hc
 ·cases hc
 ·rename_i xs Ys
  split at hc
  ·rename_i hcond
   cases hc;simp only[DD,K8]at hcond
   let ⟨⟨⟨⟨N,Q⟩,h3⟩,h4⟩,h5⟩:=hcond
   let ⟨hw,ht⟩:=h
   have h1:Hl (gS ops xs (cz xs 0) xs 0) (kB B.w0 lh sl lh.length (gS ops xs (cz xs 0) xs 0)):=λi d hd=>by
    refine⟨λqq=>?_,?_⟩
    ·unfold HZ;rw[nU,hd];have:=List.all_eq_true.1 h5 d (Q3 hd);simp[qq]at this;simp[this,r8]
    ·have:=mY (ds:=gS ops xs (cz xs 0) xs 0) (gS ops xs (cz xs 0) xs 0) 0 (λj=>by simp) hw i d (by simpa using hd);simpa using this
   generalize kB B.w0 lh sl lh.length (gS ops xs (cz xs 0) xs 0)=Ws at hw ht h1;refine wpIn_region_any N ?_;have ZC:fY ops (Array.replicate ops.size false):=λk o hk=>by simp[Py]at hk;split at hk<;>simp at hk
   have hany:=me hS h1 Q h4 (gS ops xs (cz xs 0) xs 0) 0 _ sl _ (λj=>by simp) h3 ZC ht;rw[← h4];have hext:iq lh m (lh++List.replicate (MJ (gS ops xs (cz xs 0) xs 0)) .dead) m:=⟨aJ.le_refl m,λk hk=>⟨by rw[Ht (List.getElem?_eq_some_iff.1 hk).1];exact hk,rfl⟩⟩;rw[h4]at hany ⊢;exact aaO hF hS hE Ys (vV ops xs (cz xs 0) xs 0) hQ _ _ sl _ m a _ ⟨hs.1,hs.2.1,(hs.2.2.deads _).drew _⟩ hext hany
  ·cases hc
end
end Go.Sx
namespace Go.Sx
inductive OT where|done|op (o:ia) (r:OT)|alt (a b:OT)
def oq (w0:World) (Uc:FuncId->bT):OT->List ah->List av->(List ah->List av->Prop)->Prop
 |.done,sl,lh,K=>K sl lh|.op o r,sl,lh,K=>ff w0 Uc [o] sl lh λsl lh=>oq w0 Uc r sl lh K
 |.alt a b,sl,lh,K=>oq w0 Uc a sl lh K/\oq w0 Uc b sl lh K
def pG:kl->Bool
 |.mov _|.fa ..|.len _|.fld ..|.iaS ..|.ext ..=>true|_=>false
def pv (sl:List ah):kl->Option ah
 |.mov x=>some (arg sl x)
 |.fa off x=>match arg sl x with|.ptr (some p)=>some (.ptr (some (p.add off)))|_=>none
 |.len x=>match arg sl x with|.slice _ n _=>some (.int .i64 n)|_=>none
 |.fld off n x=>match arg sl x with
   |.agg cs=>(match n with|some n=>some (.agg ((cs.drop off).take n))|none=>cs[off]?)
   |_=>none
 |.iaS esz x ix=>match arg sl x,arg sl ix with
   |.slice (some X1) n _,.int _ i=>if 0<=i/\i<n then some (.ptr (some (X1.add (i.toNat*esz)))) else none
   |_,_=>none
 |.ext x i=>match arg sl x with|.tup vs=>vs[i]?|_=>none
 |_=>none
section
variable {w0:World} {Uc:FuncId->bT} {sl sl':List ah} {lh:List av} {P:Program}
theorem yt {op:kl} {K:ah->List av->Prop} (h:pG op=true):db w0 Uc sl lh none K op↔∃ v,pv sl op=some v/\K v lh:=by
 cases op<;>simp only[pG,JN]at h<;>simp only[db,pv]
 case mov x=>exact⟨λh=>⟨_,rfl,h⟩,λ⟨_,e,h⟩=>by cases e;exact h⟩
 case fa off x=>
  generalize arg sl x=At
  match At with
  |.ptr (some p)=>exact⟨λh=>⟨_,rfl,h⟩,λ⟨_,e,h⟩=>by cases e;exact h⟩|.ptr none|.int ..|.bool _|.str _|.slice ..|.fn ..|.agg _|.tup _|.raw _|.any=>exact⟨λh=>h.elim,λ⟨_,e,_⟩=>by cases e⟩
 case len x=>
  generalize arg sl x=At
  match At with
  |.slice ..=>exact⟨λh=>⟨_,rfl,h⟩,λ⟨_,e,h⟩=>by cases e;exact h⟩|.ptr _|.int ..|.bool _|.str _|.fn ..|.agg _|.tup _|.raw _|.any=>exact⟨λh=>h.elim,λ⟨_,e,_⟩=>by cases e⟩
 case fld off n x=>
  generalize arg sl x=At
  match At,n with
  |.agg cs,some n=>exact⟨λh=>⟨_,rfl,h⟩,λ⟨_,e,h⟩=>by cases e;exact h⟩|.agg cs,none=>exact Iff.rfl|.ptr _,_|.int ..,_|.bool _,_|.str _,_|.slice ..,_|.fn ..,_|.tup _,_|.raw _,_|.any,_=>exact⟨λh=>h.elim,λ⟨_,e,_⟩=>by cases e⟩
 case iaS esz x ix=>
  generalize arg sl x=At;generalize arg sl ix=z
  match At,z with
  |.slice (some X1) n _,.int _ i=>
    dsimp only
    constructor
    ·rintro⟨N,Q,q',e,h3⟩;cases e;exact⟨_,DL ⟨N,Q⟩,h3⟩
    ·rintro⟨v,e,h3⟩
     split at e
     ·rename_i h;cases e;exact⟨h.1,h.2,X1,rfl,h3⟩
     ·cases e
  |.slice none _ _,.int _ _=>exact⟨λ⟨_,_,_,e,_⟩=>(by cases e),λ⟨_,e,_⟩=>(by cases e)⟩|.slice ..,.ptr _|.slice ..,.bool _|.slice ..,.str _|.slice ..,.slice ..|.slice ..,.fn ..|.slice ..,.agg _|.slice ..,.tup _|.slice ..,.raw _|.slice ..,.any=>exact⟨λh=>h.elim,λ⟨_,e,_⟩=>by split at e<;>simp_all⟩|.ptr _,_|.int ..,_|.bool _,_|.str _,_|.agg _,_|.fn ..,_|.tup _,_|.raw _,_|.any,_=>exact⟨λh=>h.elim,λ⟨_,e,_⟩=>by cases e⟩
 case ext x i=>
  generalize arg sl x=At
  match At with
  |.tup vs=>exact Iff.rfl|.ptr _|.int ..|.bool _|.str _|.slice ..|.fn ..|.agg _|.raw _|.any=>exact⟨λh=>h.elim,λ⟨_,e,_⟩=>by cases e⟩
theorem AK {op:kl} (h:∀ x∈op.args,arg sl x=arg sl' x):pv sl op=pv sl' op:=by
 cases op<;>simp[kl.args,L8,Mx,or_false,Qq,forall_eq]at h<;>simp[pv]
 all_goals first
  |rw[h]|rw[h.1,h.2]
end
def De (g:Nat->Option OT):List Nat->Option OT
 |[]=>some .done|[i]=>g i
 |i::j::l=>match g i,De g (j::l) with|some a,some b=>some (.alt a b)|_,_=>none
def OM (xs:List ia) (i:Nat):Bool:=match xs[i]? with|some x=>pG x.op|none=>false
def Hu (ops:Array Oper) (xs:List ia):Nat->Array Bool->Option OT
 |0,listed=>if(Region.ready .any ops listed).isEmpty then some .done else none
 |f+1,listed=>match (Region.ready .any ops listed).find? (OM xs) with
   |some j=>match xs[j]?,Hu ops xs f (listed.setIfInBounds j true) with|some x,some t=>some (.op x t)|_,_=>none
   |none=>De (λi=>match xs[i]?,Hu ops xs f (listed.setIfInBounds i true) with|some x,some t=>some (.op x t)|_,_=>none) (Region.ready .any ops listed)
def nH (ops:Array Oper) (xs:List ia):Bool :=
 (List.range xs.length).all λi=>(List.range xs.length).all λj=>i==j||Dl ops xs.length i j||Dl ops xs.length j i||(match xs[i]?,xs[j]? with
    |some x,some At=>!pG x.op||m7 x At
    |_,_=>false)
def hp0 (xs:List ia):Bool:=xs.any λx=>match x.op with
 |.len (.t d)=>xs.any λAt=>At.dst==some d&&match At.op with|.call ..=>true|_=>false
 |_=>false
def zt (P:Program) (BD:List TypeId) (ops:Array Oper):Option OT :=
 match fq P BD ops ops.toList with
 |none=>none|some xs=>if P.follows .mixedOrders&&(xs.all (λx=>x.guard.isNone)&&(hp0 xs&&(nH ops xs&&xs.length==ops.size))) then Hu ops xs ops.size (Array.replicate ops.size false) else none
section
variable {P:Program} {Uc:FuncId->bT} {w0:World} {ops:Array Oper} {xs:List ia} {K:List ah->List av->Prop}
def yA (w0:World) (Uc:FuncId->bT) (ops:Array Oper) (xs:List ia) (K:List ah->List av->Prop):Nat->Array Bool->List ah->List av->Prop
 |0,listed,sl,lh=>Region.ready .any ops listed=[]/\K sl lh
 | fuel+1,listed,sl,lh=>(Region.ready .any ops listed=[]->K sl lh) /\
    ∀i∈Region.ready .any ops listed,∀x,xs[i]? = some x->db w0 Uc sl lh none (λv l=>yA w0 Uc ops xs K fuel (listed.setIfInBounds i true) (eH sl x.dst v) l) x.op
theorem aik {x:fM} {d:Option Nat} {sl:List ah} {v:ah} (h:∀ t,d=some t->t∉p7 [x]):arg (eH sl d v) x=arg sl x:=by
 cases x with
 |k a=>rfl
 |t i=>simp[arg];exact adB λe=>h i e (by simp[p7])
theorem nO {x:ia} {d:Option Nat} {sl:List ah} {v:ah} (h:∀ t,d=some t->t∉x.reads):∀ At∈x.op.args,arg (eH sl d v) At=arg sl At:=λAt hy=>aik λt ht hm=>h t ht (by
 cases At with
 |k a=>simp[p7]at hm
 |t i=>simp[p7]at hm;subst hm;exact QB _ (List.mem_filterMap.2 ⟨_,hy,rfl⟩))
theorem yas (hS:∀ f,(Uc f).Ok P f) (hp:nH ops xs=true) (hlen:xs.length=ops.size) {i:Nat} {x:ia} (hx:xs[i]? = some x) (c8:pG x.op=true):∀ (fuel:Nat) (listed:Array Bool) (sl:List ah) (lh:List av),fY ops listed->i∈Region.ready .any ops listed ->
 db w0 Uc sl lh none (λv l=>yA w0 Uc ops xs K fuel (listed.setIfInBounds i true) (eH sl x.dst v) l) x.op->yA w0 Uc ops xs K (fuel+1) listed sl lh:=by
 have good:∀ (listed:Array Bool) (j:Nat) (At:ia),fY ops listed->i∈Region.ready .any ops listed->j∈Region.ready .any ops listed->j≠i->xs[j]? = some At->m7 x At=true:=λlisted j At hc hi hj Yf hy=>by
  let ⟨ui,oi,ZK,ai⟩:=mem_ready.1 hi
  let ⟨uj,oj,a₂,aj⟩:=mem_ready.1 hj
  have li:i<xs.length:=by rw[hlen];exact(Array.getElem?_eq_some_iff.1 ZK).1
  have lj:j<xs.length:=by rw[hlen];exact(Array.getElem?_eq_some_iff.1 a₂).1
  simp[nH,OC,List.mem_range]at hp;have:=hp i li j lj;simp[MX,K8,hx,hy,c8]at this;have no:∀ {x:Nat},listed.getD x true=false->listed.getD x false=true->False:=λ{x} N Q=>by
   rcases M3 x listed.size with h|h
   ·simp[h]at N Q;rw[N]at Q;cases Q
   ·simp[Qt h]at N
  rcases this with ((h|h)|h)|h
  ·exact(Yf h.symm).elim
  ·exact(no uj (fk hc _ i oi ZK ai h)).elim
  ·exact(no ui (fk hc _ j oj a₂ aj h)).elim
  ·simpa using h
 intro fuel;induction fuel with
 |zero=>
   intro listed sl lh hc hi X9;refine⟨λh=>(by rw[h]at hi;cases hi),λj hj At hy=>?_⟩;by_cases Ye:j=i
   ·subst Ye;rw[hx]at hy;cases hy;exact X9
   ·exfalso
    have hr:=ready_mono hj Ye
    let ⟨v,_,X9⟩:=(yt c8).1 X9
    have hnil:=X9.1;rw[hnil]at hr;cases hr
 |succ fuel ih=>
   intro listed sl lh hc hi X9;refine⟨λh=>(by rw[h]at hi;cases hi),λj hj At hy=>?_⟩;by_cases Ye:j=i
   ·subst Ye;rw[hx]at hy;cases hy;exact X9
   ·let ⟨v,y,X9⟩:=(yt c8).1 X9
    let ⟨a1,a2,a3⟩:=nj (good listed j At hc hi hj Ye hy)
    have N:=X9.2 j (ready_mono hj Ye) At hy;rw[nE (sl':=sl) (nO (λt ht=>a1 t ht))]at N;refine dJ hS (λu l h=>?_) N;refine ih _ _ l (ft hc hj) (ready_mono hi (Ne.symm Ye)) ?_;rw[yt c8];refine⟨v,?_,?_⟩
    ·rw[AK (sl':=sl) (nO (λt ht=>a3 t ht))];exact y
    ·rw[S7 _ _ Ye,ru (d:=At.dst) (d':=x.dst) (λk hk YP=>a2 k YP hk)];exact h
theorem wo {g:Nat->Option OT} {sl:List ah} {lh:List av}:∀ {l:List Nat} {t:OT},De g l=some t->oq w0 Uc t sl lh K->∀ i∈l,∃ u,g i=some u/\oq w0 Uc u sl lh K
 |[],_,_,_,i,hi=>by cases hi
 |[j],t,h,y,i,hi=>by simp at hi;subst hi;exact⟨t,h,y⟩
 |j::k::l,t,h,y,i,hi=>by
   simp[De]at h;split at h
   ·rename_i a b ha hb
    cases h;rcases List.mem_cons.1 hi with rfl|hi
    ·exact⟨a,ha,y.1⟩
    ·exact wo hb y.2 i hi
   ·cases h
theorem zO (hS:∀ f,(Uc f).Ok P f) (hp:nH ops xs=true) (hg:xs.all (λx=>x.guard.isNone)=true) (hlen:xs.length=ops.size):∀ (fuel:Nat) (listed:Array Bool) (sl:List ah) (lh:List av) (t:OT),fY ops listed->Hu ops xs fuel listed=some t->oq w0 Uc t sl lh K->yA w0 Uc ops xs K fuel listed sl lh
 |0,listed,sl,lh,t,hc,ht,y=>by
   simp only[Hu]at ht;split at ht
   ·rename_i he;cases ht;exact⟨by simpa using he,y⟩
   ·cases ht
 |fuel+1,listed,sl,lh,t,hc,ht,y=>by
   have one:∀ (x:ia) (j:Nat),xs[j]? = some x->∀ {K:List ah->List av->Prop},ff w0 Uc [x] sl lh K->db w0 Uc sl lh none (λv l=>K (eH sl x.dst v) l) x.op:=λx j hx K h=>by
    have p9:x.guard=none:=by have:=List.all_eq_true.1 hg x (Q3 hx);simpa using this
    simp[ff,p9]at h;exact h
   simp[Hu]at ht;split at ht
   ·rename_i j hj
    split at ht
    ·rename_i x u hx hu
     cases ht;have pR:=List.mem_of_find?_eq_some hj;have wJ:pG x.op=true:=by have:=List.find?_some hj;simpa[OM,hx] using this
     refine yas hS hp hlen hx wJ fuel listed sl lh hc pR ?_;exact dJ hS (λv l h=>zO hS hp hg hlen fuel _ _ l u (ft hc pR) hu h) (one x j hx y)
    ·cases ht
   ·rename_i hnone
    refine⟨λhr=>?_,λi hi x hx=>?_⟩
    ·rw[hr]at ht;simp[De,H2]at ht;subst ht;exact y
    ·let ⟨u,hu,xE⟩:=wo ht y i hi
     rw[hx]at hu;split at hu
     ·rename_i x' r e1 hr;cases e1;cases hu;exact dJ hS (λv l h=>zO hS hp hg hlen fuel _ _ l r (ft hc hi) hr h) (one x i hx xE)
     ·cases hu
end
section
variable {P:Program} {Uc:FuncId->bT} {BD:List TypeId} {B:dj} {F:Fence} {n:Nat} {ops:Array Oper}
theorem pI (hF:jT F) (hS:∀ f,(Uc f).Ok P f) (hE:∀ t∈BD,dc P t) {xs:List ia} (hc:fq P BD ops ops.toList=some xs) (hg:xs.all (λx=>x.guard.isNone)=true)
 {K:List ah->List av->Prop} {X4:Exit->Act->World->Prop} {lh0:List av} {m0:aJ} (hQ:∀sl' lh' m' a' w',i9 B m' sl' lh' a' w'->iq lh0 m0 lh' m'->K sl' lh'->X4 .normal a' w') :
 ∀(fuel:Nat) (listed:Array Bool) (sl:List ah) (lh:List av) (m:aJ) (a:Act) (w:World),i9 B m sl lh a w->iq lh0 m0 lh m->yA B.w0 Uc ops xs K fuel listed sl lh->wpAnyIn F n P .any ops X4 fuel listed a w
 |0,_,_,_,_,_,_,hs,he,h=>⟨h.1,hQ _ _ _ _ _ hs he h.2⟩
 |fuel+1,listed,sl,lh,m,a,w,hs,he,h=>by
   have hSS:∀f,(Uc f).Sound P f:=λf=>(hS f).sound;refine⟨λhr=>hQ _ _ _ _ _ hs he (h.1 hr),λi hi=>?_⟩
   let ⟨_,o,ho,_⟩:=mem_ready.1 hi
   let ⟨x,hx,Zx⟩:=kw ops.toList xs i o hc (by simpa using ho)
   have Q:=h.2 i hi x hx;have p9:x.guard=none:=by have:=List.all_eq_true.1 hg x (Q3 hx);simpa using this
   unfold wpOpIn;simp[ho];unfold ke at Zx;split at Zx
   ·rename_i j hj hgo;cases Zx;rw[DL (by simp[Region.wanted,hgo])];refine iF hF hj (nM hSS hE hj hs.1 hs.2.2 Q) λv w' ⟨r,m',lh',h3,h4,h5,h6⟩=>?_;exact pI hF hS hE hc hg hQ fuel _ _ _ m' _ _ (hs.put h4.1 h5 o.dst h3) (he.trans h4) h6
   ·split at Zx
    ·cases Zx;cases p9
    ·cases Zx
   ·cases Zx
theorem ae3 (hF:jT F) (hS:∀ f,(Uc f).Ok P f) (hE:∀ t∈BD,dc P t) {id:Nat} {t:OT} (hc:zt P BD ops=some t) {K:List ah->List av->Prop} {X4:Exit->Act->World->Prop} {sl:List ah} {lh:List av} {m:aJ} {a:Act} {w:World}
 (hs:i9 B m sl lh a w) (h:oq B.w0 Uc t sl lh K) (hQ:∀sl' lh' m' a' w',i9 B m' sl' lh' a' w'->iq lh m lh' m'->K sl' lh'->X4 .normal a' w'):(Code.region id ops true).wpIn F n P X4 a w:=by
 unfold zt at hc;split at hc
 ·cases hc
 ·rename_i xs Ys
  split at hc
  ·rename_i hcond
   simp only[DD,K8]at hcond
   let ⟨N,Q,_,h4,h5⟩:=hcond
   refine wpIn_region_any N ?_;have ZC:fY ops (Array.replicate ops.size false):=λk o hk=>by simp[Py]at hk;split at hk<;>simp at hk
   have hall:=zO hS h4 Q h5 ops.size _ sl lh t ZC hc h;exact pI hF hS hE Ys Q hQ _ _ sl lh m a _ ⟨hs.1,hs.2.1,hs.2.2.drew _⟩ (iq.refl _ _) hall
  ·cases hc
end
end Go.Sx
namespace Go.Sx
def wu (Uc:FuncId->bT):FuncId->bT:=λf w0 args lh K=>Uc f w0 args lh λv l=>(∃t,l=lh++t)/\K v l
theorem pD {P:Program} {Uc:FuncId->bT} (hS:∀ f,(Uc f).Ok P f):∀ f,(wu Uc f).Ok P f:=λf=>
 ⟨λB m lh w args vs K N Q h3=>(hS f).sound B m lh w args vs K N Q ((hS f).mono _ _ _ _ _ (λ_ _ h=>h.2) h3),
  λw0 args lh K K' hk h=>(hS f).mono _ _ _ _ _ (λr l h=>⟨h.1,hk _ _ h.2⟩) h,
  λw0 args lh X4 h=>(hS f).strict _ _ _ _ ((hS f).mono _ _ _ _ _ (λ_ _ h=>h.2) h)⟩
def N7:kl->Bool
 |.st ..|.app ..|.clr ..|.bsl ..=>false|_=>true
def RZ:kl->Bool
 |.ld _|.lds ..=>true|_=>false
def Kl (op:kl):Bool:=RZ op||pG op
def pm (w0:World) (lh:List av) (sl:List ah):kl->Option ah
 |.ld x=>match arg sl x with|.ptr (some p)=>ld w0 lh p|_=>none
 |.lds n x=>match arg sl x with|.ptr (some p)=>(lds w0 lh p n).map .agg|_=>none
 |op=>pv sl op
section
variable {w0:World} {Uc:FuncId->bT} {sl sl':List ah} {lh:List av} {P:Program}
theorem Dc {op:kl} {K:ah->List av->Prop} (h:Kl op=true):db w0 Uc sl lh none K op↔∃ v,pm w0 lh sl op=some v/\K v lh:=by
 cases op
 case ld x=>
  simp[db,pm];generalize arg sl x=At
  match At with
  |.ptr (some p)=>exact Iff.rfl|.ptr none|.int ..|.bool _|.str _|.slice ..|.fn ..|.agg _|.tup _|.raw _|.any=>exact⟨λh=>h.elim,λ⟨_,e,_⟩=>by cases e⟩
 case lds n x=>
  simp[db,pm];generalize arg sl x=At
  match At with
  |.ptr (some p)=>
    constructor
    ·rintro⟨cs,e,h⟩;exact⟨_,by show Option.map ah.agg (lds w0 lh p n)=_;rw[e];rfl,h⟩
    ·rintro⟨v,e,h⟩
     dsimp only at e;cases hl:lds w0 lh p n with
     |none=>rw[hl]at e;cases e|some cs=>rw[hl]at e;cases e;exact⟨cs,hl,h⟩
  |.ptr none|.int ..|.bool _|.str _|.slice ..|.fn ..|.agg _|.tup _|.raw _|.any=>exact⟨λh=>h.elim,λ⟨_,e,_⟩=>by cases e⟩
 all_goals first
  |(cases h;done)|exact yt (Uc:=Uc) h
theorem aiB {op:kl} (h:∀ x∈op.args,arg sl x=arg sl' x):pm w0 lh sl op=pm w0 lh sl' op:=by
 cases op
 case ld x=>simp[kl.args,L8,Mx,or_false,forall_eq]at h;simp[pm];rw[h]
 case lds n x=>simp[kl.args,L8,Mx,or_false,forall_eq]at h;simp[pm];rw[h]
 all_goals exact AK h
theorem ybf {op:kl} {l:List av} (h:RZ op=false):pm w0 l sl op=pm w0 lh sl op:=by cases op<;>first|rfl|cases h
theorem Ax {t:List av} {k:Nat} {o:av} (h:lh[k]? = some o):(lh++t)[k]? = some o:=by rw[Ht (List.getElem?_eq_some_iff.1 h).1];exact h
theorem ali {t:List av} {p:hU} {v:ah} (h:ld w0 lh p=some v):ld w0 (lh++t) p=some v:=by
 cases p with
 |l k off=>
   simp[ld]at h ⊢;split at h
   ·rename_i cs ty hk;rw[Ax hk];exact h
   ·cases h
 |g a=>exact h
theorem ak6 {t:List av} {p:hU} {n:Nat} {v:List ah} (h:lds w0 lh p n=some v):lds w0 (lh++t) p n=some v:=by
 cases p with
 |l k off=>
   simp[lds]at h ⊢;split at h
   ·rename_i cs ty hk;rw[Ax hk];exact h
   ·cases h
 |g a=>exact h
theorem hjk {op:kl} {t:List av} {v:ah} (h:pm w0 lh sl op=some v):pm w0 (lh++t) sl op=some v:=by
 cases op
 case ld x=>
  simp[pm]at h ⊢;split at h
  ·exact ali h
  ·cases h
 case lds n x=>
  simp[pm]at h ⊢;split at h
  ·rename_i p _
   cases hl:lds w0 lh p n with
   |none=>rw[hl]at h;cases h|some cs=>rw[hl]at h;rw[ak6 hl];exact h
  ·cases h
 all_goals exact h
theorem ais (hS:∀ f,(Uc f).Ok P f) {op:kl} {K:ah->List av->Prop} (hg:N7 op=true) (h:db w0 (wu Uc) sl lh none K op):db w0 (wu Uc) sl lh none (λv l=>(∃ t,l=lh++t)/\K v l) op:=by
 have hP:=pD hS;have h0:∃t,lh=lh++t:=⟨[],aD⟩;have at0:∀{op:kl},(∀K:ah->List av->Prop,db w0 (wu Uc) sl lh none K op=db w0 (wu Uc) sl lh none (λv _=>K v lh) op)->db w0 (wu Uc) sl lh none K op->db w0 (wu Uc) sl lh none (λv l=>(∃t,l=lh++t)/\K v l) op:=λe h=>by rw[e]at h ⊢;exact dJ hP (λv l hk=>⟨h0,hk⟩) h
 cases op
 case new ty z=>exact⟨⟨_,rfl⟩,h⟩
 case box ty x=>exact⟨h.1,⟨_,rfl⟩,h.2⟩
 case mks ty n cs=>exact⟨⟨_,rfl⟩,h⟩
 case call f xs=>simp only[db,wu]at h ⊢;exact(hS f).mono _ _ _ _ _ (λv l hk=>⟨hk.1,hk⟩) h
 case callv x xs=>
  simp only[db,wu]at h ⊢;split at h
  ·exact(hS _).mono _ _ _ _ _ (λv l hk=>⟨hk.1,hk⟩) h
  ·exact h.elim
 all_goals first
  |(cases hg;done)|exact at0 (λK=>rfl) h
end
def TG (xs:List ia) (i:Nat):Bool:=match xs[i]? with|some x=>Kl x.op|none=>false
def Ia (ops:Array Oper) (xs:List ia):Nat->Array Bool->Option OT
 |0,listed=>if(Region.ready .any ops listed).isEmpty then some .done else none
 |f+1,listed=>match (Region.ready .any ops listed).find? (TG xs) with
   |some j=>match xs[j]?,Ia ops xs f (listed.setIfInBounds j true) with|some x,some t=>some (.op x t)|_,_=>none
   |none=>De (λi=>match xs[i]?,Ia ops xs f (listed.setIfInBounds i true) with|some x,some t=>some (.op x t)|_,_=>none) (Region.ready .any ops listed)
def tA (ops:Array Oper) (xs:List ia):Bool :=
 (List.range xs.length).all λi=>(List.range xs.length).all λj=>i==j||Dl ops xs.length i j||Dl ops xs.length j i||(match xs[i]?,xs[j]? with
    |some x,some At=>!Kl x.op||(m7 x At&&(!RZ x.op||N7 At.op))
    |_,_=>false)
def afC (P:Program) (f:FuncId):Bool:=match P.funcs[f]? with
 |some fn=>fn.resultTypes.toList.any λt=>match pg P t with
   |some z=>z.toList.any λv=>match v with|.slice ..=>true|_=>false
   |none=>false
 |none=>false
def aiY (P:Program) (xs:List ia):Bool:=xs.any λx=>match x.op with
 |.call f _=>afC P f
 |.agg z ps=>ps.any λp=>(match z[p.1]? with
   |some (.slice none 0 0)=>true
   |_=>false)&&match p.2.2 with
     |.t d=>xs.any λAt=>At.dst==some d&&match At.op with|.callv ..=>true|_=>false
     |_=>false
 |_=>false
def rr (P:Program) (BD:List TypeId) (ops:Array Oper):Option OT :=
 match fq P BD ops ops.toList with
 |none=>none|some xs=>if P.follows .mixedOrders&&(xs.all (λx=>x.guard.isNone)&&(aiY P xs&&(tA ops xs&&xs.length==ops.size))) then Ia ops xs ops.size (Array.replicate ops.size false) else none
section
variable {P:Program} {Uc:FuncId->bT} {w0:World} {ops:Array Oper} {xs:List ia} {K:List ah->List av->Prop}
theorem aio (hS:∀ f,(Uc f).Ok P f) (hp:tA ops xs=true) (hlen:xs.length=ops.size) {i:Nat} {x:ia} (hx:xs[i]? = some x) (c8:Kl x.op=true):∀ (fuel:Nat) (listed:Array Bool) (sl:List ah) (lh:List av),fY ops listed->i∈Region.ready .any ops listed ->
 db w0 (wu Uc) sl lh none (λv l=>yA w0 (wu Uc) ops xs K fuel (listed.setIfInBounds i true) (eH sl x.dst v) l) x.op->yA w0 (wu Uc) ops xs K (fuel+1) listed sl lh:=by
 have hP:=pD hS;have good:∀ (listed:Array Bool) (j:Nat) (At:ia),fY ops listed->i∈Region.ready .any ops listed->j∈Region.ready .any ops listed->j≠i->xs[j]? = some At->m7 x At=true/\(RZ x.op=false∨N7 At.op=true):=λlisted j At hc hi hj Yf hy=>by
  let ⟨ui,oi,ZK,ai⟩:=mem_ready.1 hi
  let ⟨uj,oj,a₂,aj⟩:=mem_ready.1 hj
  have li:i<xs.length:=by rw[hlen];exact(Array.getElem?_eq_some_iff.1 ZK).1
  have lj:j<xs.length:=by rw[hlen];exact(Array.getElem?_eq_some_iff.1 a₂).1
  simp[tA,OC,List.mem_range]at hp;have:=hp i li j lj;simp only[MX,K8,hx,hy,c8]at this;have no:∀ {x:Nat},listed.getD x true=false->listed.getD x false=true->False:=λ{x} N Q=>by
   rcases M3 x listed.size with h|h
   ·simp[h]at N Q;rw[N]at Q;cases Q
   ·simp[Qt h]at N
  rcases this with ((h|h)|h)|h
  ·exact(Yf h.symm).elim
  ·exact(no uj (fk hc _ i oi ZK ai h)).elim
  ·exact(no ui (fk hc _ j oj a₂ aj h)).elim
  ·simp only[Mq,DD,MX,LW,JN,false_or]at h;exact h
 intro fuel;induction fuel with
 |zero=>
   intro listed sl lh hc hi X9;refine⟨λh=>(by rw[h]at hi;cases hi),λj hj At hy=>?_⟩;by_cases Ye:j=i
   ·subst Ye;rw[hx]at hy;cases hy;exact X9
   ·exfalso
    have hr:=ready_mono hj Ye
    let ⟨v,_,X9⟩:=(Dc c8).1 X9
    have hnil:=X9.1;rw[hnil]at hr;cases hr
 |succ fuel ih=>
   intro listed sl lh hc hi X9;refine⟨λh=>(by rw[h]at hi;cases hi),λj hj At hy=>?_⟩;by_cases Ye:j=i
   ·subst Ye;rw[hx]at hy;cases hy;exact X9
   ·let ⟨v,y,X9⟩:=(Dc c8).1 X9
    let ⟨vi,ay⟩:=good listed j At hc hi hj Ye hy
    let ⟨a1,a2,a3⟩:=nj vi
    have N:=X9.2 j (ready_mono hj Ye) At hy;rw[nE (sl':=sl) (nO (λt ht=>a1 t ht))]at N;have Q:db w0 (wu Uc) sl lh none (λu l=>pm w0 l sl x.op=some v/\yA w0 (wu Uc) ops xs K fuel ((listed.setIfInBounds i true).setIfInBounds j true) (eH (eH sl x.dst v) At.dst u) l) At.op:=by
     rcases ay with ay|ay
     ·exact dJ hP (λu l h=>⟨(ybf ay).trans y,h⟩) N
     ·exact dJ hP (λu l h=>⟨by obtain⟨⟨t,rfl⟩,_⟩:=h;exact hjk y,h.2⟩) (ais hS ay N)
    refine dJ hP (λu l h=>?_) Q;refine ih _ _ l (ft hc hj) (ready_mono hi (Ne.symm Ye)) ?_;rw[Dc c8];refine⟨v,?_,?_⟩
    ·rw[aiB (sl':=sl) (nO (λt ht=>a3 t ht))];exact h.1
    ·rw[S7 _ _ Ye,ru (d:=At.dst) (d':=x.dst) (λk hk YP=>a2 k YP hk)];exact h.2
theorem Pg (hS:∀ f,(Uc f).Ok P f) (hp:tA ops xs=true) (hg:xs.all (λx=>x.guard.isNone)=true) (hlen:xs.length=ops.size):∀ (fuel:Nat) (listed:Array Bool) (sl:List ah) (lh:List av) (t:OT),fY ops listed->Ia ops xs fuel listed=some t->oq w0 (wu Uc) t sl lh K->yA w0 (wu Uc) ops xs K fuel listed sl lh
 |0,listed,sl,lh,t,hc,ht,y=>by
   simp only[Ia]at ht;split at ht
   ·rename_i he;cases ht;exact⟨by simpa using he,y⟩
   ·cases ht
 |fuel+1,listed,sl,lh,t,hc,ht,y=>by
   have hP:=pD hS;have one:∀ (x:ia) (j:Nat),xs[j]? = some x->∀ {K:List ah->List av->Prop},ff w0 (wu Uc) [x] sl lh K->db w0 (wu Uc) sl lh none (λv l=>K (eH sl x.dst v) l) x.op:=λx j hx K h=>by
    have p9:x.guard=none:=by have:=List.all_eq_true.1 hg x (Q3 hx);simpa using this
    simp[ff,p9]at h;exact h
   simp[Ia]at ht;split at ht
   ·rename_i j hj
    split at ht
    ·rename_i x u hx hu
     cases ht;have pR:=List.mem_of_find?_eq_some hj;have wJ:Kl x.op=true:=by have:=List.find?_some hj;simpa[TG,hx] using this
     refine aio hS hp hlen hx wJ fuel listed sl lh hc pR ?_;exact dJ hP (λv l h=>Pg hS hp hg hlen fuel _ _ l u (ft hc pR) hu h) (one x j hx y)
    ·cases ht
   ·rename_i hnone
    refine⟨λhr=>?_,λi hi x hx=>?_⟩
    ·rw[hr]at ht;simp[De,H2]at ht;subst ht;exact y
    ·let ⟨u,hu,xE⟩:=wo ht y i hi
     rw[hx]at hu;split at hu
     ·rename_i x' r e1 hr;cases e1;cases hu;exact dJ hP (λv l h=>Pg hS hp hg hlen fuel _ _ l r (ft hc hi) hr h) (one x i hx xE)
     ·cases hu
end
section
variable {P:Program} {Uc:FuncId->bT} {BD:List TypeId} {B:dj} {F:Fence} {n:Nat} {ops:Array Oper}
theorem adw (hF:jT F) (hS:∀ f,(Uc f).Ok P f) (hE:∀ t∈BD,dc P t) {id:Nat} {t:OT} (hc:rr P BD ops=some t) {K:List ah->List av->Prop} {X4:Exit->Act->World->Prop} {sl:List ah} {lh:List av} {m:aJ} {a:Act} {w:World}
 (hs:i9 B m sl lh a w) (h:oq B.w0 (wu Uc) t sl lh K) (hQ:∀sl' lh' m' a' w',i9 B m' sl' lh' a' w'->iq lh m lh' m'->K sl' lh'->X4 .normal a' w'):(Code.region id ops true).wpIn F n P X4 a w:=by
 unfold rr at hc;split at hc
 ·cases hc
 ·rename_i xs Ys
  split at hc
  ·rename_i hcond
   simp only[DD,K8]at hcond
   let ⟨N,Q,_,h4,h5⟩:=hcond
   refine wpIn_region_any N ?_;have ZC:fY ops (Array.replicate ops.size false):=λk o hk=>by simp[Py]at hk;split at hk<;>simp at hk
   have hall:=Pg hS h4 Q h5 ops.size _ sl lh t ZC hc h;exact pI hF (pD hS) hE Ys Q hQ _ _ sl lh m a _ ⟨hs.1,hs.2.1,hs.2.2.drew _⟩ (iq.refl _ _) hall
  ·cases hc
end
end Go.Sx
