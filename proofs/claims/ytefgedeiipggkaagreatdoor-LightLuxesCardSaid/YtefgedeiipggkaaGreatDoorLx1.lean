/- Part 1 of a proof. No conditions. -/
import Derived.CallsIn
import Derived.Laws.Entries
import Derived.OrdersIn
set_option maxRecDepth 100000
set_option linter.unusedVariables false
set_option linter.unusedSimpArgs false
theorem K {p:Prop} (h:p:=by omega):p:=h
theorem au {p:Prop} (h:p:=by simp):p:=h
theorem aR {p:Prop} (h:p:=by decide):p:=h
abbrev D2:=@Bool.and_eq_true
abbrev DT:=@Nat.eq_of_beq_eq_true
abbrev DW:=@List.getElem?_append_left
abbrev DJ:=@Option.some.injEq
abbrev DZ:=@Option.map_eq_some_iff
abbrev DU:=@of_decide_eq_true
abbrev D7:=@Nat.le_refl
abbrev Dy:=@List.getElem?_append_right
abbrev Dc:=@Nat.le_of_ble_eq_true
abbrev C4:=@if_neg
abbrev Do:=@List.getElem?_eq_none
abbrev Db:=@List.getElem?_set
abbrev De:=@Int.toNat_natCast
abbrev Dp:=@of_decide_eq_false
abbrev EA:=@Nat.mul_le_mul_right
abbrev CV:=@if_pos
abbrev Dh:=@List.cons.injEq
abbrev E0:=@decide_eq_true_eq
abbrev EZ:=@List.getElem?_eq_getElem
abbrev E2:=@Option.map_some
abbrev EQ:=@List.mem_cons_of_mem
abbrev Da:=@Nat.zero_le
abbrev Ew:=@List.getElem?_cons_zero
abbrev Eu:=@List.getElem?_cons_succ
abbrev Ei:=@List.getElem?_append
abbrev E8:=@List.map_cons
abbrev EO:=@List.length_cons
abbrev Gk:=@Int.mul_le_mul_of_nonneg_right
abbrev Ea:=@List.length_append
abbrev Ee:=@Bool.false_eq_true
abbrev E5:=@Nat.succ_mul
abbrev Ey:=@Nat.ble_eq_true_of_le
abbrev EJ:=@List.all_cons
abbrev EB:=@Nat.zero_add
abbrev En:=@List.getElem?_take
abbrev F4:=@List.ext_getElem?
abbrev ET:=@List.mem_cons
abbrev Fj:=@Nat.lt_of_lt_of_le
abbrev Fz:=@List.getElem?_drop
abbrev I3:=@List.getD_eq_getElem?_getD
abbrev G9:=@List.length_reverse
abbrev G2:=@List.reverse_cons
abbrev G6:=@Bool.not_eq_true'
abbrev G7:=@List.mem_cons_self
abbrev Eg:=@Nat.le_trans
abbrev FL:=@List.length_nil
abbrev Dq:=@true_and
abbrev IV:=@Int.tdiv_eq_ediv_of_nonneg
abbrev J9:=@List.take_append_of_le_length
abbrev EM:=@eq_of_beq
abbrev EC:=@if_false
abbrev H3:=@Array.toList_inj
abbrev JD:=@Int.fdiv_eq_ediv_of_nonneg
abbrev IZ:=@List.take_of_length_le
abbrev GL:=@Nat.mul_le_mul
abbrev Fa:=@Nat.lt_or_ge
abbrev FQ:=@Int.le_of_lt
abbrev Gy:=@Bool.or_eq_true
abbrev Ek:=@beq_iff_eq
abbrev HF:=@Array.toList_map
abbrev H1:=@List.drop_drop
abbrev HG:=@Nat.not_lt_zero
abbrev FZ:=@Nat.add_mul
abbrev IW:=@List.replicate_succ
abbrev HH:=@Bool.eq_iff_iff
abbrev I4:=@List.not_mem_nil
abbrev GE:=@Nat.add_zero
abbrev IX:=@List.pairwise_cons
abbrev Ib:=@List.mem_singleton
abbrev GT:=@Int.mul_zero
abbrev HJ:=@List.take_take
abbrev HK:=@Bool.not_false
abbrev JG:=@List.mem_of_getElem?
abbrev Ic:=@List.append_assoc
abbrev Jz:=@Array.getElem?_replicate
abbrev H4:=@Bool.not_not
abbrev EN:=@if_true
abbrev JF:=@List.map_congr_left
abbrev HM:=@Bool.not_true
abbrev JH:=@Array.length_toList
abbrev JI:=@Array.getElem?_push
abbrev Ii:=@List.range'_succ
abbrev Km:=@List.drop_append_of_le_length
abbrev If:=@List.all_eq_true
abbrev Ig:=@Nat.min_eq_left
abbrev Ih:=@List.mem_append
abbrev HL:=@List.map_nil
abbrev K1:=@List.getElem?_toArray
abbrev I5:=@Nat.add_assoc
abbrev Ko:=@Int.tmod_eq_emod_of_nonneg
abbrev K2:=@List.mem_append_left
abbrev K3:=@List.getElem?_mapIdx
abbrev Kq:=@Array.getElem?_eq_getElem
abbrev JO:=@List.length_tail
abbrev JP:=@List.length_drop
abbrev JM:=@List.cons_append
abbrev JN:=@Bool.cond_eq_ite
abbrev HN:=@Int.one_mul
abbrev JV:=@Option.map_none
abbrev Ks:=@Array.getElem?_eq_none
abbrev K4:=@not_true_eq_false
abbrev K5:=@List.flatten_cons
abbrev I6:=@Int.mul_pos
abbrev JQ:=@decide_eq_true
abbrev JS:=@List.mapM_cons
abbrev JU:=@List.drop_take
abbrev Ij:=@Nat.ne_of_lt
abbrev Kx:=@List.take_append_drop
abbrev K7:=@Option.getD_some
abbrev K8:=@Nat.mod_eq_of_lt
abbrev Ky:=@List.range_eq_range'
abbrev Kz:=@List.mem_of_mem_tail
abbrev JW:=@Bool.and_self
abbrev I8:=@Nat.mod_lt
abbrev L9:=@beq_eq_false_iff_ne
abbrev KE:=@List.append_nil
abbrev LA:=@Array.toList_append
abbrev OP:=@Array.getD_eq_getD_getElem?
abbrev OQ:=@Array.toList_setIfInBounds
abbrev JX:=@Nat.sub_self
abbrev LH:=@Nat.lt_or_gt_of_ne
abbrev Ja:=@Nat.add_comm
abbrev Kt:=@Int.natCast_nonneg
abbrev OO:=@Array.setIfInBounds_comm
abbrev K6:=@Bool.and_true
abbrev Kv:=@forall_eq_or_imp
abbrev Kw:=@List.length_take
namespace Go.Sx
inductive jh where|l (k off:Nat)|g (a:Addr)
inductive ak where|int (k:IntKind) (n:Int)|bool (b:Bool)|str (s:ByteArray)|ptr (p:Option jh)|slice (p:Option jh) (len cap:Nat)|fn (f:Fn) (first caps:List ak)|agg (cs:List ak)|tup (vs:List ak)|raw (v:Value)|any
inductive ar where|dead|hid|cells (cs:List ak) (ty:TypeId)
abbrev aN:=Nat->Option Nat
def eg (m:aN):Option jh->Option Addr->Prop
 |none,Pw=>Pw=none|some (.g a),Pw=>Pw=some a|some (.l k off),Pw=>∃b,m k=some b/\Pw=some ⟨b,off,none⟩
mutual
def C5 (m:aN):ak->Value->Prop
 |.int k n,v=>v=.int k n|.bool b,v=>v=.bool b|.str s,v=>v=.string s|.ptr p,v=>∃Pw,v=.pointer Pw/\eg m p Pw|.slice p n c,v=>∃Pw,v=.slice Pw n c/\eg m p Pw|.fn f xs ys,v=>∃us vs,v=.func f us vs/\aC m xs us.toList/\aC m ys vs.toList|.agg cs,v=>∃vs,v=.agg vs/\aC m cs vs.toList|.tup cs,v=>∃vs,v=.tuple vs/\aC m cs vs.toList|.raw u,v=>v=u|.any,_=>True
def aC (m:aN):List ak->List Value->Prop
 |[],vs=>vs=[]|x::xs,vs=>∃u us,vs=u::us/\C5 m x u/\aC m xs us
end
def aN.le (m m':aN):Prop:=∀k b,m k=some b->m' k=some b
theorem aN.le_refl (m:aN):m.le m:=λ_ _ h=>h
theorem aN.le_trans {a b c:aN} (h:a.le b) (k:b.le c):a.le c:=λi x hx=>k i x (h i x hx)
theorem AC {m m':aN} (h:m.le m'):∀ {p Pw},eg m p Pw->eg m' p Pw
 |none,_,hp=>hp|some (.g _),_,hp=>hp|some (.l _ _),_,⟨b,hb,hq⟩=>⟨b,h _ _ hb,hq⟩
mutual
theorem hol {m m':aN} (h:m.le m'):∀ (a:ak) (v:Value),C5 m a v->C5 m' a v
 |.int ..,_,hv=>by simp[C5]at hv ⊢;exact hv
 |.bool ..,_,hv=>by simp[C5]at hv ⊢;exact hv
 |.str ..,_,hv=>by simp[C5]at hv ⊢;exact hv
 |.ptr ..,_,hv=>by simp[C5]at hv ⊢;let ⟨Pw,M,N⟩:=hv;exact⟨Pw,M,AC h N⟩
 |.slice ..,_,hv=>by simp[C5]at hv ⊢;let ⟨Pw,M,N⟩:=hv;exact⟨Pw,M,AC h N⟩
 |.fn _ xs ys,_,hv=>by simp[C5]at hv ⊢;let ⟨us,vs,M,N,h3⟩:=hv;exact⟨us,vs,M,db h xs _ N,db h ys _ h3⟩
 |.agg cs,_,hv=>by simp[C5]at hv ⊢;let ⟨vs,M,N⟩:=hv;exact⟨vs,M,db h cs _ N⟩
 |.tup cs,_,hv=>by simp[C5]at hv ⊢;let ⟨vs,M,N⟩:=hv;exact⟨vs,M,db h cs _ N⟩
 |.raw _,_,hv=>by simp[C5]at hv ⊢;exact hv
 |.any,_,_=>by simp[C5]
theorem db {m m':aN} (h:m.le m'):∀ (az:List ak) (vs:List Value),aC m az vs->aC m' az vs
 |[],_,hv=>by simp[aC]at hv ⊢;exact hv
 |a::az,_,hv=>by simp[aC]at hv ⊢;let ⟨u,us,M,N,h3⟩:=hv;exact⟨u,us,M,hol h a u N,db h az us h3⟩
end
theorem c7 {m:aN}:∀ {az:List ak} {vs:List Value},aC m az vs->vs.length=az.length
 |[],_,h=>by simp[aC]at h;subst h;rfl
 |_::_,_,h=>by simp[aC]at h;obtain⟨u,us,rfl,_,h3⟩:=h;simp[c7 h3]
theorem jy {m:aN}:∀ {az:List ak} {vs:List Value} (i:Nat) {a:ak},aC m az vs->az[i]? = some a->∃ v,vs[i]? = some v/\C5 m a v
 |[],_,_,_,_,h=>by simp at h
 |_::_,_,0,_,hr,h=>by simp[aC]at hr;obtain⟨u,us,rfl,N,_⟩:=hr;simp at h;subst h;exact⟨u,rfl,N⟩
 |_::_,_,i+1,_,hr,h=>by
   simp[aC]at hr;obtain⟨u,us,rfl,_,h3⟩:=hr;simp at h
   let ⟨v,hv,hr⟩:=jy i h3 h
   exact⟨v,by simpa using hv,hr⟩
theorem oE {m:aN} {az:List ak} {vs:List Value} (h:aC m az vs) (i:Nat) (d:Value):C5 m (az.getD i .any) (vs.getD i d):=by
 cases ha:az[i]? with
 |none=>simp[List.getD,ha,C5]
 |some a=>
   let ⟨v,hv,hr⟩:=jy i h ha
   simp[List.getD,ha,hv,hr]
theorem lc {m:aN}:∀ {az:List ak} {vs:List Value} (i:Nat) {a:ak} {v:Value},aC m az vs->C5 m a v->aC m (az.set i a) (vs.set i v)
 |[],_,_,_,_,h,_=>by simp[aC]at h;subst h;simp[aC]
 |_::_,_,0,_,_,hr,h=>by simp[aC]at hr;obtain⟨u,us,rfl,N,h3⟩:=hr;simp only[List.set_cons_zero,aC];exact⟨_,_,rfl,h,h3⟩
 |_::_,_,i+1,_,_,hr,h=>by simp[aC]at hr;obtain⟨u,us,rfl,N,h3⟩:=hr;simp only[List.set_cons_succ,aC];exact⟨_,_,rfl,N,lc i h3 h⟩
theorem eo {m:aN}:∀ {az bs:List ak} {us vs:List Value},aC m az us->aC m bs vs->aC m (az++bs) (us++vs)
 |[],_,_,_,h,k=>by simp[aC]at h;subst h;simpa using k
 |_::_,_,_,_,h,k=>by simp[aC]at h;obtain⟨u,us,rfl,N,h3⟩:=h;simp only[JM,aC];exact⟨_,_,rfl,N,eo h3 k⟩
theorem fK {m:aN}:∀ {az:List ak} {vs:List Value} (i:Nat),aC m az vs->aC m (az.take i) (vs.take i)
 |[],_,i,h=>by simp[aC]at h;subst h;simp[aC]
 |_::_,_,0,_=>by simp[aC]
 |_::_,_,i+1,h=>by simp[aC]at h;obtain⟨u,us,rfl,N,h3⟩:=h;simp only[List.take_succ_cons,aC];exact⟨_,_,rfl,N,fK i h3⟩
theorem gz {m:aN}:∀ {az:List ak} {vs:List Value} (i:Nat),aC m az vs->aC m (az.drop i) (vs.drop i)
 |[],_,i,h=>by simp[aC]at h;subst h;simp[aC]
 |_::_,_,0,h=>h
 |_::_,_,i+1,h=>by simp[aC]at h;obtain⟨u,us,rfl,N,h3⟩:=h;simp[List.drop_succ_cons];exact gz i h3
theorem gR {m:aN}:∀ (n:Nat) (v:Value),aC m (List.replicate n .any) (List.replicate n v)
 |0,_=>by simp[aC]
 |n+1,v=>by simp only[IW,aC];exact⟨_,_,rfl,by simp[C5],gR n v⟩
def nG:Value->Bool
 |.agg _|.tuple _=>false|_=>true
def ak.cells:ak->List ak
 |.agg cs=>cs|a=>[a]
def ak.one:ak->Bool
 |.agg _|.tup _|.any=>false|.raw v=>nG v|_=>true
def ak.flat:ak->Bool
 |.agg cs=>cs.all ak.one|a=>a.one
theorem F24 {m:aN} {a:ak} {v:Value} (h:C5 m a v) (M:a.one=true):nG v=true:=by
 cases a<;>simp[C5]at h
 case int=>subst h;rfl
 case bool=>subst h;rfl
 case str=>subst h;rfl
 case ptr=>obtain⟨Pw,rfl,_⟩:=h;rfl
 case slice=>obtain⟨Pw,rfl,_⟩:=h;rfl
 case fn=>obtain⟨_,_,rfl,_⟩:=h;rfl
 case raw=>subst h;simpa[ak.one] using M
 all_goals simp[ak.one]at M
theorem fza8 {v:Value} (h:nG v=true):v.cells=#[v]:=by cases v<;>simp_all [nG,Value.cells]
theorem og {m:aN} {a:ak} {v:Value} (h:C5 m a v) (M:a.flat=true):aC m a.cells v.cells.toList/\∀ u∈v.cells.toList,nG u=true:=by
 cases a with
 |agg cs=>
   simp[C5]at h;obtain⟨vs,rfl,N⟩:=h;refine⟨N,?_⟩;simp[ak.flat]at M;simp only[Value.cells];generalize vs.toList=l at N;induction cs generalizing l with
   |nil=>simp only[aC]at N;subst N;simp
   |cons c cs ih=>
     simp[aC]at N;obtain⟨u,us,rfl,h3,h4⟩:=N;simp[EJ,D2]at M;intro x hx;rcases List.mem_cons.1 hx with rfl|hx
     ·exact F24 h3 M.1
     ·exact ih M.2 us h4 x hx
 |_=>have h3:=F24 h (by simpa[ak.flat] using M);rw[fza8 h3];exact⟨by simp only[ak.cells,aC];exact⟨_,_,rfl,h,rfl⟩,by simpa using h3⟩
structure dP where
 w0:World
 wf:World
 own:Nat->Prop
 ds:List Deferred
structure bh (B:dP) (m:aN) (lh:List ar) (w:World):Prop where
 os:w.os=B.wf.os
 tape:w.tape=B.wf.tape
 output:w.output=B.wf.output
 size:B.w0.heap.size<=w.heap.size
 old:∀b,b<B.w0.heap.size->w.heap[b]? = B.w0.heap[b]?
 fsize:B.wf.heap.size<=w.heap.size
 kept:∀b,b<B.wf.heap.size->¬B.own b->w.heap[b]? = B.wf.heap[b]?
 loc:∀k cs ty,lh[k]? = some (.cells cs ty)->∃b vs,m k=some b/\aC m cs vs.toList/\w.heap[b]? = some (.cells vs ty (0,0))/\B.w0.heap.size<=b/\(B.wf.heap.size<=b∨B.own b)
 inj:∀k k' b cs cs' ty ty',lh[k]? = some (.cells cs ty)->lh[k']? = some (.cells cs' ty')->m k=some b->m k'=some b->k=k'
 dom:∀k,lh.length<=k->m k=none
 dead:∀k,lh[k]? = some .dead->m k=none
 rng:∀k b,m k=some b->b<w.heap.size
theorem bh.start (w:World):bh ⟨w,w,λ_=>False,[]⟩ (λ_=>none) [] w :=
 ⟨rfl,rfl,rfl,D7 _,λ_ _=>rfl,D7 _,λ_ _ _=>rfl,λ_ _ _ h=>by simp at h,λ_ _ _ _ _ _ _ h=>by simp at h,λ_ _=>rfl,λ_ _=>rfl,λ_ _ h=>by cases h⟩
theorem bh.drew {B:dP} {m:aN} {lh:List ar} {w:World} (h:bh B m lh w) (n:Nat):bh B m lh { w with drawn:=n } :=
 ⟨h.os,h.tape,h.output,h.size,h.old,h.fsize,h.kept,h.loc,h.inj,h.dom,h.dead,h.rng⟩
theorem bh.cell {B:dP} {m:aN} {lh:List ar} {w:World} (h:bh B m lh w) {k off:Nat} {cs:List ak} {ty:TypeId} {c:ak}
 (hk:lh[k]? = some (.cells cs ty)) (hc:cs[off]? = some c) {Pw:Option Addr} (hq:eg m (some (.l k off)) Pw) :
 ∃b v,Pw=some ⟨b,off,none⟩/\m k=some b/\w.cell? ⟨b,off,none⟩=some v/\w.frozen? ⟨b,off,none⟩=false/\C5 m c v:=by
 obtain⟨b,hb,rfl⟩:=hq
 let ⟨b',vs,Qx,R3,hh,_⟩:=h.loc k cs ty hk
 rw[hb]at Qx;cases Qx
 let ⟨v,hv,hr⟩:=jy off R3 hc
 refine⟨b,v,rfl,hb,?_,?_,hr⟩
 ·simp[World.cell?,hh];simpa using hv
 ·simp[World.frozen?,hh]
theorem bh.cell_g {B:dP} {m:aN} {lh:List ar} {w:World} (h:bh B m lh w) {a:Addr} {v:Value} (hc:B.w0.cell? a=some v):w.cell? a=some v:=by
 have hb:a.block<B.w0.heap.size:=by apply Classical.byContradiction;intro hn;simp[World.cell?,Ks (Nat.le_of_not_lt hn)]at hc
 simp[World.cell?,h.old _ hb];exact hc
end Go.Sx
namespace Go.Sx
theorem hpp {α β:Type} (P:Program):∀ (s:Sem α) (f:α->Sem β) (w:World),(s >>= f).run P w=match s.run P w with
 |.ok a w'=>(f a).run P w'|.halt h w'=>.halt h w':=by
 intro s f;show ∀w,(Sem.bind s f).run P w=_;induction s with
 |pure a=>intro w;rfl
 |load m a k ih=>
   intro w;simp[Sem.bind,Sem.run];split
   ·exact ih _ _
   ·split
    ·exact ih _ _
    ·rfl
 |store m a v k ih=>
   intro w
   cases v<;>simp[Sem.bind,Sem.run]<;>first
    |rfl
    | (split
       ·split
        ·rfl
        ·exact ih _
       ·split
        ·exact ih _
        ·rfl)
 |new o k ih=>intro w;simp[Sem.bind,Sem.run];exact ih _ _|shape r k ih=>intro w;simp[Sem.bind,Sem.run];exact ih _ _|freeze a n k ih=>intro w;simp[Sem.bind,Sem.run];exact ih _|frozen a k ih=>intro w;simp[Sem.bind,Sem.run];exact ih _ _
 |getObj r k ih=>
   intro w;simp[Sem.bind,Sem.run];split
   ·rfl
   ·exact ih _ _
   ·rfl
 |setObj r o k ih=>
   intro w;simp[Sem.bind,Sem.run];split
   ·rfl
   ·exact ih _
   ·rfl
 |choose Pw k ih=>
   intro w;simp[Sem.bind,Sem.run];split
   ·exact ih _ _
   ·exact ih _ _
 |sys c k ih=>intro w;simp[Sem.bind,Sem.run];exact ih _ _|program k ih=>intro w;simp[Sem.bind,Sem.run];exact ih _ _|mark m k ih=>intro w;simp[Sem.bind,Sem.run];exact ih _|halt h=>intro w;rfl
theorem af {α β:Type} {P:Program} {s:Sem α} {f:α->Sem β} {w w':World} {a:α} (h:s.run P w=.ok a w'):(s >>= f).run P w=(f a).run P w':=by rw[hpp,h]
theorem bh.put {B:dP} {m:aN} {lh lh':List ar} {w:World} (h:bh B m lh w) {p:Nat} {cs:List ak} {ty:TypeId} {vs:Array Value}
 (hp:m p=none) (hl:lh'[p]? = some (.cells cs ty)) (ho:∀k,k ≠ p->lh'[k]? = lh[k]?) (hv:aC m cs vs.toList) :
 bh B (λk=>if k=p then some w.heap.size else m k) lh' { w with heap:=w.heap.push (.cells vs ty (0,0)) }/\m.le (λk=>if k=p then some w.heap.size else m k):=by
 have R8:m.le (λk=>if k=p then some w.heap.size else m k):=λk b hk=>by
  have:k≠p:=λe=>by rw[e,hp]at hk;cases hk
  simp[this,hk]
 refine⟨⟨h.os,h.tape,h.output,by have:=h.size;simp;omega,λb hb=>?_,by have:=h.fsize;simp;omega,λb hb UX=>?_,λk cs' ty' hk=>?_,λk k' b cs1 cs2 ty1 DC M N hb Qx=>?_,λk hk=>?_,λk hk=>?_,λk b hk=>?_⟩,R8⟩
 ·have:=h.size;rw[JI,C4 K];exact h.old b hb
 ·have:=h.fsize;rw[JI,C4 K];exact h.kept b hb UX
 ·by_cases e:k=p
  ·subst e;rw[hl]at hk;cases hk;exact⟨w.heap.size,vs,au,db R8 _ _ hv,au,h.size,.inl h.fsize⟩
  ·rw[ho k e]at hk
   let ⟨b,us,hb,TO,hh,Y1⟩:=h.loc k cs' ty' hk
   refine⟨b,us,by simp[e,hb],db R8 _ _ TO,?_,Y1⟩;have:=h.rng k b hb;show(w.heap.push _)[b]? = _;rw[JI,C4 K];exact hh
 ·by_cases e:k=p<;>by_cases e':k'=p
  ·rw[e,e']
  ·simp[e,EN]at hb;cases hb;simp[e',EC]at Qx;have:=h.rng k' _ Qx;omega
  ·simp[e',EN]at Qx;cases Qx;simp[e,EC]at hb;have:=h.rng k _ hb;omega
  ·simp[e,e',EC]at hb Qx;rw[ho k e]at M;rw[ho k' e']at N;exact h.inj k k' b cs1 cs2 ty1 DC M N hb Qx
 ·have e:k≠p:=λe=>by
   subst e;rw[Do hk]at hl;cases hl
  simp[e,EC];apply h.dom;have:=ho k e;rw[Do hk]at this;exact List.getElem?_eq_none_iff.1 this.symm
 ·have e:k≠p:=λe=>by subst e;rw[hl]at hk;cases hk
  simp[e,EC];exact h.dead k (by rw[← ho k e];exact hk)
 ·by_cases e:k=p
  ·simp[e,EN]at hk;cases hk;simp
  ·simp[e,EC]at hk;have:=h.rng k b hk;simp;omega
theorem bh.push {B:dP} {m:aN} {lh:List ar} {w:World} (h:bh B m lh w) {cs:List ak} {ty:TypeId} {vs:Array Value} (hv:aC m cs vs.toList) :
 bh B (λk=>if k=lh.length then some w.heap.size else m k) (lh++[.cells cs ty]) { w with heap:=w.heap.push (.cells vs ty (0,0)) } /\
  m.le (λk=>if k=lh.length then some w.heap.size else m k) :=
 h.put (h.dom _ (D7 _)) au (λk hk=>by
  rw[Ei];split
  ·rfl
  ·rename_i hn;rw[Do (by simp;omega),Do K]) hv
theorem bh.junk {B:dP} {m:aN} {lh:List ar} {w:World} (h:bh B m lh w) (o:Obj):bh B m lh { w with heap:=w.heap.push o } :=
 ⟨h.os,h.tape,h.output,by have:=h.size;simp;omega,λb hb=>by have:=h.size;rw[JI,C4 K];exact h.old b hb,
  by have:=h.fsize;simp;omega,λb hb ho=>by have:=h.fsize;rw[JI,C4 K];exact h.kept b hb ho,
  fun k cs ty hk=>by
   let ⟨b,vs,hb,R3,hh,hs⟩:=h.loc k cs ty hk
   have:=h.rng k b hb;exact⟨b,vs,hb,R3,by rw[JI,C4 K];exact hh,hs⟩,
  h.inj,h.dom,h.dead,λk b hk=>by have:=h.rng k b hk;simp;omega⟩
theorem bh.set {B:dP} {m:aN} {lh:List ar} {w:World} (h:bh B m lh w) {k off:Nat} {cs:List ak} {ty:TypeId} {x:ak} {v:Value} {b:Nat}
 (hk:lh[k]? = some (.cells cs ty)) (hb:m k=some b) (hx:C5 m x v) :
 bh B m (lh.set k (.cells (cs.set off x) ty)) (w.setCell ⟨b,off,none⟩ v):=by
 let ⟨b',vs,Qx,R3,hh,hs,U6⟩:=h.loc k cs ty hk
 rw[hb]at Qx;cases Qx;have Wg:k<lh.length:=(List.getElem?_eq_some_iff.1 hk).1;have hget:∀j,(lh.set k (.cells (cs.set off x) ty))[j]? = if k=j then some (.cells (cs.set off x) ty) else lh[j]? := λj=>by rw[Db];split<;>simp_all
 have hheap:∀ i,(w.setCell ⟨b,off,none⟩ v).heap[i]? = if b=i then some (.cells (vs.setIfInBounds off v) ty (0,0)) else w.heap[i]? := λi=>by
  simp[World.setCell,Array.getElem?_modify];split
  ·rename_i e;subst e;simp[hh]
  ·rfl
 have RI:(w.setCell ⟨b,off,none⟩ v).heap.size=w.heap.size:=by simp[World.setCell]
 refine⟨h.os,h.tape,h.output,by rw[RI];exact h.size,λi hi=>?_,by rw[RI];exact h.fsize,λi hi ho=>?_,λj cs' ty' hj=>?_,λj j' i cs1 cs2 ty1 DC M N hi Rn=>?_,λj hj=>?_,λj hj=>?_,λj i hj=>?_⟩
 ·rw[hheap,C4 K];exact h.old i hi
 ·rw[hheap,C4 (λe=>by subst e;rcases U6 with M|M;exact absurd hi K;exact ho M)];exact h.kept i hi ho
 ·rw [hget]at hj
  split at hj
  ·rename_i e;subst e;cases hj;refine⟨b,vs.setIfInBounds off v,hb,?_,by rw[hheap,CV rfl],hs,U6⟩;rw[OQ];exact lc off R3 hx
  ·rename_i e
   let ⟨i,us,hi,TO,ip12,ip16⟩:=h.loc j cs' ty' hj
   refine⟨i,us,hi,TO,?_,ip16⟩;rw[hheap,C4 (λe'=>e (h.inj k j b cs cs' ty ty' hk hj hb (by rw[hi,e'])))];exact ip12
 ·have f:∀ {j:Nat} {c:List ak} {t:TypeId},(lh.set k (ar.cells (cs.set off x) ty))[j]? = some (ar.cells c t)->∃ c' t',lh[j]? = some (ar.cells c' t'):=λ{j c t} hj=>by
   rw[hget]at hj;split at hj
   ·rename_i e;subst e;exact⟨_,_,hk⟩
   ·exact⟨_,_,hj⟩
  let ⟨c1,t1,g1⟩:=f M
  let ⟨c2,t2,g2⟩:=f N
  exact h.inj j j' i c1 c2 t1 t2 g1 g2 hi Rn
 ·exact h.dom j (by simpa using hj)
 ·rw[hget]at hj;split at hj
  ·cases hj
  ·exact h.dead j hj
 ·rw[RI];exact h.rng j i hj
def wr:List ak->Nat->List ak->List ak
 |cs,_,[]=>cs|cs,off,x::xs=>wr (cs.set off x) (off+1) xs
theorem qC:∀ (xs cs:List ak) (off:Nat),(wr cs off xs).length=cs.length
 |[],_,_=>rfl|_::xs,cs,off=>by simp[wr,qC xs]
theorem nC (b off i:Nat):(⟨b,off,none⟩:Addr).add i=⟨b,off+i,none⟩:=by
 unfold Addr.add;split
 ·rename_i h;subst h;rfl
 ·rfl
theorem hpc {P:Program} {w:World} {a:Addr} {v:Value} {u:Value} (hv:nG v=true) (hc:w.cell? a=some u) (hf:w.frozen? a=false):(store a v).run P w=.ok () (w.setCell a v):=by cases v<;>simp_all [store,Sem.run,nG]
theorem bh.stores {B:dP} {m:aN} {P:Program} {k b off:Nat} {ty:TypeId} (hb:m k=some b):∀ (xs:List ak) (us:List Value) (cs:List ak) (lh:List ar) (w:World) (i:Nat),
 bh B m lh w->lh[k]? = some (.cells cs ty)->off+i+xs.length<=cs.length->aC m xs us->(∀u∈us,nG u=true) ->
 ∃w',(storeCells ⟨b,off,none⟩ us i).run P w=.ok () w'/\bh B m (lh.set k (.cells (wr cs (off+i) xs) ty)) w':=by
 intro xs;induction xs with
 |nil=>
   intro us cs lh w i h hk hl hr _;simp[aC]at hr;subst hr;refine⟨w,by unfold storeCells;rfl,?_⟩;have:lh.set k (.cells (wr cs (off+i) []) ty)=lh:=by
    apply F4;intro j;rw[Db];split
    ·rename_i e;subst e
     let ⟨M,N⟩:=List.getElem?_eq_some_iff.1 hk
     simp[wr,M,N]
    ·rfl
   rw[this];exact h
 |cons x xs ih=>
   intro us cs lh w i h hk hl hr M;simp[aC]at hr;obtain⟨u,us,rfl,hx,hr⟩:=hr;have Q7:off+i<cs.length:=by simp at hl;omega
   let ⟨b',v,hq,Qx,hc,hf,_⟩:=h.cell hk (EZ Q7) ⟨b,hb,rfl⟩
   rw[hb]at Qx;cases Qx;have hs:=h.set (off:=off+i) hk hb hx;have Wg:k<lh.length:=(List.getElem?_eq_some_iff.1 hk).1
   let ⟨w',U7,hrel⟩:=ih us (cs.set (off+i) x) (lh.set k (.cells (cs.set (off+i) x) ty)) (w.setCell ⟨b,off+i,none⟩ u) (i+1) hs (by simp[Wg]) (by simp at hl ⊢;omega) hr (λu' UY=>M u' (EQ _ UY))
   refine⟨w',?_,?_⟩
   ·unfold storeCells;rw[nC,af (hpc (M u G7) hc hf)];exact U7
   ·rw[List.set_set]at hrel;exact hrel
end Go.Sx
namespace Go.Sx
def bU:Value->ak
 |.int k n=>.int k n|.bool b=>.bool b|.string s=>.str s|.pointer none=>.ptr none|.pointer (some a)=>.ptr (some (.g a))|.slice none n c=>.slice none n c|.slice (some a) n c=>.slice (some (.g a)) n c|v=>.raw v
theorem cK (m:aN) (v:Value):C5 m (bU v) v:=by
 cases v with
 |pointer a=>cases a<;>simp[bU,C5,eg]|slice a n c=>cases a<;>simp[bU,C5,eg]|_=>simp[bU,C5]
def jh.add:jh->Nat->jh
 |.l k off,n=>.l k (off+n)|.g a,n=>.g (a.add n)
theorem sY {m:aN} {p:jh} {Pw:Option Addr} (h:eg m (some p) Pw) (n:Nat):∃ a,Pw=some a/\eg m (some (p.add n)) (some (a.add n)):=by
 cases p with
 |l k off=>obtain⟨b,hb,rfl⟩:=h;exact⟨_,rfl,b,hb,by rw[nC]⟩|g a=>simp[eg]at h;subst h;exact⟨a,rfl,rfl⟩
def gP (w0:World) (a:Addr):Nat->Nat->Option (List ak)
 |_,0=>some []
 |i,n+1=>match w0.cell? (a.add i),gP w0 a (i+1) n with|some v,some l=>some (bU v::l)|_,_=>none
def lds (w0:World) (lh:List ar):jh->Nat->Option (List ak)
 |.l k off,n=>match lh[k]? with
   |some (.cells cs _)=>if off+n<=cs.length then some ((cs.drop off).take n) else none
   |_=>none
 |.g a,n=>gP w0 a 0 n
def ld (w0:World) (lh:List ar):jh->Option ak
 |.l k off=>match lh[k]? with|some (.cells cs _)=>cs[off]?|_=>none
 |.g a=>(w0.cell? a).map bU
theorem R59 {B:dP} {m:aN} {lh:List ar} {w:World} (h:bh B m lh w) {p:jh} {Pw:Option Addr} (hq:eg m (some p) Pw) {x:ak} (hx:ld B.w0 lh p=some x) :
 ∃a v,Pw=some a/\w.cell? a=some v/\C5 m x v:=by
 cases p with
 |l k off=>
   simp[ld]at hx;split at hx
   ·rename_i cs ty hk
    let ⟨b,v,M,_,h3,_,h5⟩:=h.cell hk hx hq
    exact⟨_,v,M,h3,h5⟩
   ·cases hx
 |g a=>simp[eg]at hq;subst hq;simp[ld,DZ]at hx;obtain⟨v,hv,rfl⟩:=hx;exact⟨a,v,rfl,h.cell_g hv,cK m v⟩
theorem yo {P:Program} {w:World} {a:Addr} {v:Value} (h:w.cell? a=some v):(load a).run P w=.ok v w:=by simp[load,Sem.run,h]
theorem oJ {P:Program} {w:World} {a:Addr}:∀ (vs:List Value) (i:Nat) (acc:Array Value),(∀ j v,vs[j]? = some v->w.cell? (a.add (i+j))=some v) ->
 (loadCellsFrom a i vs.length acc).run P w=.ok (acc++vs.toArray) w
 |[],i,acc,_=>by simp[loadCellsFrom]
 |v::vs,i,acc,h=>by
   simp only[EO,loadCellsFrom];have h0:w.cell? (a.add i)=some v:=by simpa using h 0 v rfl
   rw[af (yo h0),oJ vs (i+1) (acc.push v) (λj u hu=>by have:=h (j+1) u (by simpa using hu);rw[← this];congr 2;omega)];simp
theorem e7 {w0:World} {a:Addr}:∀ (n i:Nat) (xs:List ak),gP w0 a i n=some xs->∃ vs:List Value,xs=vs.map bU/\vs.length=n/\∀ j v,vs[j]? = some v->w0.cell? (a.add (i+j))=some v
 |0,i,xs,h=>by simp[gP,DJ]at h;subst h;exact⟨[],rfl,rfl,λj v hv=>by simp at hv⟩
 |n+1,i,xs,h=>by
   simp[gP]at h;split at h
   ·rename_i v l hv hl
    cases h;obtain⟨vs,rfl,N,h3⟩:=e7 n (i+1) l hl;refine⟨v::vs,rfl,by simp[N],λj u hu=>?_⟩;cases j with
    |zero=>simp at hu;subst hu;exact hv|succ j=>have:=h3 j u (by simpa using hu);rw[← this];congr 2;omega
   ·cases h
theorem cv (m:aN):∀ vs:List Value,aC m (vs.map bU) vs
 |[]=>by simp[aC]
 |v::vs=>by simp only[E8,aC];exact⟨_,_,rfl,cK m v,cv m vs⟩
theorem uz {B:dP} {m:aN} {lh:List ar} {w:World} {P:Program} (h:bh B m lh w) {p:jh} {Pw:Option Addr} (hq:eg m (some p) Pw) {n:Nat} {xs:List ak} (hx:lds B.w0 lh p n=some xs) :
 ∃a vs,Pw=some a/\(loadCells a n).run P w=.ok vs w/\aC m xs vs.toList:=by
 cases p with
 |l k off=>
   simp[lds]at hx;split at hx
   ·rename_i cs ty hk
    split at hx
    ·rename_i R8
     cases hx;obtain⟨b,hb,rfl⟩:=hq
     let ⟨b',vs,Qx,R3,hh,_⟩:=h.loc k cs ty hk
     rw[hb]at Qx;cases Qx;have hl:=c7 R3;have hr:=fK n (gz off R3);have hn:((vs.toList.drop off).take n).length=n:=by simp at hl ⊢;omega
     refine⟨_,((vs.toList.drop off).take n).toArray,rfl,?_,by simpa using hr⟩;have:=oJ (P:=P) (w:=w) (a:=⟨b,off,none⟩) ((vs.toList.drop off).take n) 0 #[] (λj v hv=>by
      rw[nC];rw[En]at hv;split at hv
      ·rw[Fz]at hv;simp[World.cell?,hh];simpa using hv
      ·cases hv)
     rw[hn]at this;simpa[loadCells] using this
    ·cases hx
   ·cases hx
 |g a=>simp[eg]at hq;subst hq;obtain⟨vs,rfl,N,h3⟩:=e7 n 0 xs hx;refine⟨a,vs.toArray,rfl,?_,by simpa using cv m vs⟩;have:=oJ (P:=P) (w:=w) (a:=a) vs 0 #[] (λj v hv=>h.cell_g (h3 j v hv));rw[N]at this;simpa[loadCells] using this
inductive gk where|t (i:Nat)|k (v:ak)
def arg (sl:List ak):gk->ak
 |.t i=>sl.getD i .any|.k v=>v
def bj:Operand->gk
 |.tmp t=>.t t|.const v=>.k (bU v)|.global g=>.k (.ptr (some (.g ⟨g,0,none⟩)))|.func f=>.k (.fn (.func f) [] [])
theorem bc {m:aN} {sl:List ak} {a:Act} (h:aC m sl a.tmps.toList) (x:Operand):C5 m (arg sl (bj x)) (a.eval x):=by
 cases x with
 |tmp t=>simp[bj,arg,Act.eval];have:=oE h t undef;simpa using this
 |const v=>exact cK m v|global g=>simp[bj,arg,Act.eval,C5,eg]|func f=>simp[bj,arg,Act.eval,C5,aC]
theorem iw {m:aN} {sl:List ak} {a:Act} (h:aC m sl a.tmps.toList):∀ xs:List Operand,aC m ((xs.map bj).map (arg sl)) (xs.map a.eval)
 |[]=>by simp[aC]
 |x::xs=>by simp only[E8,aC];exact⟨_,_,rfl,bc h x,iw h xs⟩
abbrev ca:=World->List ak->List ar->(ak->List ar->Prop)->Prop
def jx (lh:List ar) (m:aN) (lh':List ar) (m':aN):Prop:=m.le m'/\∀k,lh[k]? = some .hid->lh'[k]? = some .hid/\m' k=m k
theorem jx.refl (lh:List ar) (m:aN):jx lh m lh m:=⟨aN.le_refl m,λ_ h=>⟨h,rfl⟩⟩
theorem jx.trans {l1 l2 l3:List ar} {m1 m2 m3:aN} (h:jx l1 m1 l2 m2) (k:jx l2 m2 l3 m3):jx l1 m1 l3 m3 :=
 ⟨aN.le_trans h.1 k.1,λj hj=>⟨(k.2 j (h.2 j hj).1).1,((k.2 j (h.2 j hj).1).2).trans (h.2 j hj).2⟩⟩
def ai9 (P : Program) (f : FuncId) : Prop := ∃ fn, P.funcs[f]? = some fn /\ (fn.name == "runtime.NumGoroutine") = false /\ fn.body.isNone = false
def ca.Sound (P:Program) (f:FuncId) (Q1:ca):Prop :=
 ∀ (B:dP) (m:aN) (lh:List ar) (w:World) (args:List ak) (vs:List Value) (At:ak->List ar->Prop),bh B m lh w->aC m args vs->Q1 B.w0 args lh At ->
  ai9 P f/\Calls P f vs.toArray w λe w'=>∃v r m' lh',e=.returned v/\C5 m' r v/\jx lh m lh' m'/\bh B m' lh' w'/\At r lh'
def ck:List ak->List ak->Option Bool
 |[],[]=>some true|.int k a::xs,.int k' b::ys=>if k=k' then(ck xs ys).map (a==b&&·) else none
 |_,_=>none
def dM (P:Program) (t:TypeId):Prop:=P.eqGuardType P.depth t=false/\∀ (n:Nat),(P.info? t).map (·.size)=some n->∀ (xs ys:List ak) (us vs:Array Value) (m:aN) (b:Bool) (w:World),xs.length=n->aC m xs us.toList->aC m ys vs.toList->ck xs ys=some b ->
 (Op.equal t (.agg us) (.agg vs)).run P w=.ok b w
inductive l7 where
 |mov (x:gk)
 |pick (c a b:gk)
 |new (ty:TypeId) (zero:List ak)
 |box (ty:TypeId) (x:gk)
 |agg (zero:List ak) (parts:List (Nat×Nat×gk))
 |bsl (ty:TypeId) (len:Nat) (zero:List ak) (parts:List (Nat×Nat×gk))
 |ld (a:gk)
 |lds (n:Nat) (a:gk)
 |st (n:Nat) (a x:gk)
 |nz (x:gk)
 |bin (op:BinOp) (x y:gk)
 |eqa (neg:Bool) (n:Nat) (x y:gk)
 |eqb (neg:Bool) (x y:gk)
 |un (op:UnOp) (x:gk)
 |conv (k:IntKind) (x:gk)
 |mkf (fn:Fn) (first caps:List gk)
 |fa (off:Nat) (x:gk)
 |fld (off:Nat) (n:Option Nat) (x:gk)
 |iaA (len esz:Nat) (x ix:gk)
 |iaS (esz:Nat) (x ix:gk)
 |ixA (len esz:Nat) (n:Option Nat) (x ix:gk)
 |ixS (x ix:gk)
 |len (x:gk)
 |lenT (x:gk)
 |lenA (n:Nat)
 |mm (isMax:Bool) (x:gk) (xs:List gk)
 |ext (x:gk) (i:Nat)
 |slS (esz:Nat) (x:gk) (lo hi mx:Option gk)
 |slA (n esz:Nat) (x:gk) (lo hi mx:Option gk)
 |slT (x:gk) (lo hi:Option gk)
 |app (ty:TypeId) (esz bytes:Nat) (zero:List ak) (s x:gk)
 |mks (ty:TypeId) (n:Nat) (cells:List ak)
 |call (f:FuncId) (args:List gk)
 |callv (x:gk) (args:List gk)
 |isn (neg:Bool) (x:gk)
 |clr (esz:Nat) (z:List ak) (x:gk)
end Go.Sx
namespace Go.Sx
def place (pl:Option Nat) (lh:List ar) (o:ar) (At:Nat->List ar->Prop):Prop :=
 match pl with
 |none=>At lh.length (lh++[o])|some p=>lh[p]? = some .dead/\At p (lh.set p o)
def parts (sl:List ak):List (Nat×Nat×gk)->List ak->(List ak->Prop)->Prop
 |[],z,At=>At z|(off,n,x)::ps,z,At=>(arg sl x).flat=true/\(arg sl x).cells.length=n/\off+n<=z.length/\parts sl ps (wr z off (arg sl x).cells) At
def uh (op:BinOp) (k:IntKind) (a b:Int) (At:ak->Prop):Prop :=
 match op with
 |.add=>At (.int k (k.wrap (a+b)))|.sub=>At (.int k (k.wrap (a-b)))|.mul=>At (.int k (k.wrap (a*b)))|.quo=>b≠0/\At (.int k (k.wrap (a.tdiv b)))|.rem=>b≠0/\At (.int k (a.tmod b))|.eql=>At (.bool (a==b))|.neq=>At (.bool (a !=b))|.lss=>At (.bool (decide (a<b)))|.leq=>At (.bool (decide (a<=b)))|.gtr=>At (.bool (decide (b<a)))|.geq=>At (.bool (decide (b<=a)))|.and=>At (.int k (bits .and k a b))|.or=>At (.int k (bits .or k a b))|.xor=>At (.int k (bits .xor k a b))|.shl=>0<=b/\At (.int k (k.wrap (a*2 ^ min b.toNat k.bits)))|.shr=>0<=b/\At (.int k (a.fdiv (2 ^ min b.toNat k.bits)))|_=>False
def CB (op:BinOp) (a b:ByteArray) (At:ak->Prop):Prop :=
 match op with
 |.eql=>At (.bool (a.toList==b.toList))|.neq=>At (.bool !(a.toList==b.toList))|.add=>((a.size+b.size:Nat):Int)<=IntKind.i64.max/\At (.str (a++b))|_=>False
def Q6 (op:BinOp) (x y:ak) (At:ak->Prop):Prop :=
 match x,y with
 |.int k a,.int k' b=>k=k'/\uh op k a b At|.str a,.str b=>CB op a b At|_,_=>False
def bnd (x:Option ak) (y d:Nat) (At:Nat->Prop):Prop :=
 match x with
 |none=>At d|some (.int _ i)=>0<=i/\i<=y/\At i.toNat|_=>False
def mm2 (isMax:Bool):ak->List ak->(ak->Prop)->Prop
 |x,[],At=>At x|.int k a,.int k' b::xs,At=>k=k'/\mm2 isMax (.int k (if isMax then max a b else min a b)) xs At|_,_,_=>False
def cellsOf (w0:World) (lh:List ar) (p:Option jh) (n:Nat):Option (List ak) :=
 match p with
 |none=>some []|some p=>lds w0 lh p n
def ua (w0:World) (lh:List ar) (pl:Option Nat) (ty:TypeId) (esz bytes:Nat) (zero:List ak) (At:ak->List ar->Prop):ak->ak->Prop
 |.slice p n c,.slice Pw k _=>
   ∃ new, cellsOf w0 lh Pw (k*esz)=some new /\
    (n+k<=c->match p with
      | some (.l b off)=>∃ cs t,lh[b]? = some (.cells cs t)/\new.all ak.one=true/\off+n*esz+new.length<=cs.length /\
         At (.slice (some (.l b off)) (n+k) c) (lh.set b (.cells (wr cs (off+n*esz) new) t))
      |none=>At (.slice none (n+k) c) lh|some (.g a)=>new=[]/\At (.slice (some (.g a)) (n+k) c) lh) /\
    (c<n+k->∃ old,cellsOf w0 lh p (n*esz)=some old/\Builtin.nextslicecap (n+k) c*bytes<=2 ^ 48/\(((n+k:Nat):Int)<=IntKind.i64.max∨bytes≠0) /\
      ∀c',n+k<=c'->place pl lh (.cells (old++new++(List.replicate (c'-(n+k)) zero).flatten) ty) λb lh'=>At (.slice (some (.l b 0)) (n+k) c') lh')
 |_,_=>False
def dK (w0:World) (Q1:FuncId->ca) (sl:List ak) (lh:List ar) (pl:Option Nat) (At:ak->List ar->Prop):l7->Prop
 |.mov x=>At (arg sl x) lh
 |.pick c a b=>match arg sl c with
   |.bool t=>(t=true->At (arg sl a) lh)/\(t=false->At (arg sl b) lh)
   |_=>False
 |.new ty z=>place pl lh (.cells z ty) λp lh'=>At (.ptr (some (.l p 0))) lh'
 |.box ty x=>(arg sl x).flat=true/\place pl lh (.cells (arg sl x).cells ty) λp lh'=>At (.ptr (some (.l p 0))) lh'
 |.agg z ps=>parts sl ps z λcs=>At (.agg cs) lh
 |.bsl ty n z ps=>parts sl ps z λcs=>place pl lh (.cells cs ty) λp lh'=>At (.slice (some (.l p 0)) n n) lh'
 |.ld a=>match arg sl a with
   |.ptr (some p)=>∃v,ld w0 lh p=some v/\At v lh
   |_=>False
 |.lds n a=>match arg sl a with
   |.ptr (some p)=>∃cs,lds w0 lh p n=some cs/\At (.agg cs) lh
   |_=>False
 |.st n a x=>match arg sl a with
   | .ptr (some (.l k off))=>∃ cs ty,lh[k]? = some (.cells cs ty)/\(arg sl x).flat=true/\(arg sl x).cells.length=n/\off+n<=cs.length /\
      At (.tup []) (lh.set k (.cells (wr cs off (arg sl x).cells) ty))
   |_=>False
 |.nz x=>match arg sl x with
   |.ptr (some p)=>At (.ptr (some p)) lh
   |.fn (.func f) a b=>At (.fn (.func f) a b) lh
   |_=>False
 |.bin op x y=>Q6 op (arg sl x) (arg sl y) λv=>At v lh
 |.eqa neg n x y=>match arg sl x,arg sl y with
   |.agg xs,.agg ys=>xs.length=n/\∃b,ck xs ys=some b/\At (.bool (if neg then !b else b)) lh
   |_,_=>False
 |.eqb neg x y=>match arg sl x,arg sl y with
   |.bool a,.bool b=>At (.bool (if neg then !(a==b) else a==b)) lh
   |_,_=>False
 |.un op x=>match op,arg sl x with
   |.neg,.int k n=>At (.int k (k.wrap (0-n))) lh
   |.not,.bool b=>At (.bool !b) lh
   |_,_=>False
 |.conv k x=>match arg sl x with
   |.int _ n=>At (.int k (k.wrap n)) lh
   |_=>False
 |.mkf f xs ys=>At (.fn f (xs.map (arg sl)) (ys.map (arg sl))) lh
 |.fa off x=>match arg sl x with
   |.ptr (some p)=>At (.ptr (some (p.add off))) lh
   |_=>False
 |.fld off n x=>match arg sl x with
   |.agg cs=>match n with
     |some n=>At (.agg ((cs.drop off).take n)) lh
     |none=>∃v,cs[off]? = some v/\At v lh
   |_=>False
 |.iaA n esz x ix=>match arg sl x,arg sl ix with
   |.ptr (some p),.int _ i=>0<=i/\i<n/\At (.ptr (some (p.add (i.toNat*esz)))) lh
   |_,_=>False
 |.iaS esz x ix=>match arg sl x,arg sl ix with
   |.slice p n _,.int _ i=>0<=i/\i<n/\∃Pw,p=some Pw/\At (.ptr (some (Pw.add (i.toNat*esz)))) lh
   |_,_=>False
 |.ixA n esz sz x ix=>match arg sl x,arg sl ix with
   |.agg cs,.int _ i=>0<=i/\i<n/\match sz with
     |some sz=>At (.agg ((cs.drop (i.toNat*esz)).take sz)) lh
     |none=>∃v,cs[i.toNat*esz]? = some v/\At v lh
   |_,_=>False
 |.ixS x ix=>match arg sl x,arg sl ix with
   |.str s,.int _ i=>0<=i/\i<s.size/\At (.int .u8 ((s.data.toList.getD i.toNat 0).toNat:Int)) lh
   |_,_=>False
 |.len x=>match arg sl x with
   |.slice _ n _=>At (.int .i64 n) lh
   |_=>False
 |.lenT x=>match arg sl x with
   |.str s=>At (.int .i64 s.size) lh
   |_=>False
 |.lenA n=>At (.int .i64 n) lh
 |.mm b x xs=>mm2 b (arg sl x) (xs.map (arg sl)) λv=>At v lh
 |.ext x i=>match arg sl x with
   |.tup vs=>∃v,vs[i]? = some v/\At v lh
   |_=>False
 |.slS esz x lo hi mx=>match arg sl x with
   |.slice p n c=>bnd (mx.map (arg sl)) c c λm=>bnd (hi.map (arg sl)) m n λh=>bnd (lo.map (arg sl)) h 0 λl=>
      At (.slice (if m=l then p else p.map (jh.add · (l*esz))) (h-l) (m-l)) lh
   |_=>False
 |.slA n esz x lo hi mx=>match arg sl x with
   |.ptr (some p)=>bnd (mx.map (arg sl)) n n λm=>bnd (hi.map (arg sl)) m n λh=>bnd (lo.map (arg sl)) h 0 λl=>
      At (.slice (some (if m=l then p else p.add (l*esz))) (h-l) (m-l)) lh
   |_=>False
 |.slT x lo hi=>match arg sl x with
   |.str s=>bnd (hi.map (arg sl)) s.size s.size λh=>bnd (lo.map (arg sl)) h 0 λl=>At (.str (s.extract l h)) lh
   |_=>False
 |.app ty esz bytes zero s x=>ua w0 lh pl ty esz bytes zero At (arg sl s) (arg sl x)
 |.mks ty n cs=>place pl lh (.cells cs ty) λp lh'=>At (.slice (some (.l p 0)) n n) lh'
 |.call f xs=>Q1 f w0 (xs.map (arg sl)) lh At
 |.callv x xs=>match arg sl x with
   |.fn (.func f) a b=>Q1 f w0 (a++xs.map (arg sl)++b) lh At
   |_=>False
 |.isn neg x=>match arg sl x with
   |.slice p _ _=>At (.bool (if neg then !p.isNone else p.isNone)) lh
   |_=>False
 |.clr esz z x=>match arg sl x with
   |.slice (some (.l k off)) n _=>∃cs ty,lh[k]? = some (.cells cs ty)/\n≠0/\off+n*esz<=cs.length/\At (.tup []) (lh.set k (.cells (wr cs off (List.replicate n z).flatten) ty))
   |.slice _ n _=>n=0/\At (.tup []) lh
   |_=>False
def dz (P:Program) (o:Oper) (a:Act) (w:World) (Qv:Value->World->Prop):Prop :=
 (∃v w',(execOp a.eval o).run P w=.ok (.value v) w'/\Qv v w') ∨
 (∃w',(execOp a.eval o).run P w=.ok .skip w'/\Qv undef w') ∨
 (∃f args,(execOp a.eval o).run P w=.ok (.enter f args) w/\Calls P f args w λe w'=>∃v,e=.returned v/\Qv v w')
theorem bg {P:Program} {o:Oper} {a:Act} {w w':World} {Qv:Value->World->Prop} {s:Sem Value} {v:Value}
 (he:execOp a.eval o=(do pure (.value (← s)))) (hs:s.run P w=.ok v w') (hR:Qv v w'):dz P o a w Qv :=
 .inl ⟨v,w',by rw[he,af hs];rfl,hR⟩
theorem hn0 {P:Program} {o:Oper} {a:Act} {w w':World} {Qv:Value->World->Prop} {s:Sem Unit}
 (he:execOp a.eval o=(do s;pure .skip)) (hs:s.run P w=.ok () w') (hR:Qv undef w'):dz P o a w Qv :=
 .inr (.inl ⟨w',by rw[he,af hs];rfl,hR⟩)
def D5 (B:dP) (m:aN) (lh:List ar) (At:ak->List ar->Prop) (v:Value) (w:World):Prop :=
 ∃r m' lh',C5 m' r v/\jx lh m lh' m'/\bh B m' lh' w/\At r lh'
theorem D5.same {B:dP} {m:aN} {lh:List ar} {w:World} {At:ak->List ar->Prop} {v:Value} {r:ak} (h:bh B m lh w) (hr:C5 m r v) (hK:At r lh):D5 B m lh At v w :=
 ⟨r,m,lh,hr,jx.refl lh m,h,hK⟩
theorem ngP {lh:List ar} {m:aN} {k:Nat} {o o':ar} (hk:lh[k]? = some o) (ho:o≠.hid):jx lh m (lh.set k o') m :=
 ⟨aN.le_refl m,λj hj=>⟨by rw[Db,C4 (λe=>by subst e;rw[hk]at hj;cases hj;exact ho rfl)];exact hj,rfl⟩⟩
theorem D5.store {B:dP} {m:aN} {lh:List ar} {w:World} {At:ak->List ar->Prop} {v:Value} {r:ak} {k:Nat} {cs:List ak} {ty:TypeId} {o':ar} (hk:lh[k]? = some (.cells cs ty)) (h:bh B m (lh.set k o') w)
 (hr:C5 m r v) (hK:At r (lh.set k o')):D5 B m lh At v w :=
 ⟨r,m,_,hr,ngP hk au,h,hK⟩
theorem iD {B:dP} {m:aN} {lh:List ar} {w:World} {pl:Option Nat} {cs:List ak} {ty:TypeId} {vs:Array Value} {At:Nat->List ar->Prop}
 (h:bh B m lh w) (hv:aC m cs vs.toList) (hp:place pl lh (.cells cs ty) At) :
 ∃p m' lh',m' p=some w.heap.size/\jx lh m lh' m'/\bh B m' lh' { w with heap:=w.heap.push (.cells vs ty (0,0)) }/\At p lh':=by
 cases pl with
 |none=>obtain⟨M,N⟩:=h.push (ty:=ty) hv;refine⟨_,_,_,au,⟨N,λk hk=>?_⟩,M,hp⟩;have Q7:k<lh.length:=(List.getElem?_eq_some_iff.1 hk).1;exact⟨by rw[DW Q7];exact hk,by simp[Ij Q7]⟩
 |some p=>
   obtain⟨hd,hK⟩:=hp;obtain⟨M,N⟩:=h.put (p:=p) (lh':=lh.set p (.cells cs ty)) (ty:=ty) (h.dead p hd) (by simp[(List.getElem?_eq_some_iff.1 hd).1]) (λk hk=>by simp[hk.symm]) hv;refine⟨_,_,_,au,⟨N,λk hk=>?_⟩,M,hK⟩;have Rw:k≠p:=λe=>by subst e;rw[hd]at hk;cases hk
   exact⟨by rw[Db,C4 Rw.symm];exact hk,by simp[Rw]⟩
end Go.Sx
namespace Go.Sx
def zt:TypeDesc->Bool
 |.struct _|.array _ _=>true|_=>false
def rf (P:Program) (t:TypeId):Option (Option Nat) :=
 match P.underlying t,P.info? t with
 |some d,some i=>some (if zt d then some i.size else none)|_,_=>none
def rN (P:Program) (t:TypeId):Option (Array Value):=((P.info? t).bind (·.zero)).map (·.cells)
def eI (P:Program) (t:TypeId):Option Nat:=(P.info? t).map (·.size)
def hhi (P:Program) (fs:Array Field):Option (List (Nat×Nat)):=fs.toList.mapM λf=>(eI P f.type).map λn=>(f.offset,n)
def qc (pls:Nat->Option (Nat×Nat)):List (Nat×Operand)->Option (List (Nat×Nat×gk))
 |[]=>some []
 |(i,x)::ps=>match pls i,qc pls ps with|some (off,n),some l=>some ((off,n,bj x)::l)|_,_=>none
def wk:Operand->Bool
 |.const (.slice none 0 0)=>true|_=>false
def hi3 (P:Program) (b:Builtin) (ts:Array TypeId) (xs:List Operand):Option l7 :=
 match b,ts.toList,xs with
 |.len,[t],[x]=>match P.underlying t with|some (.slice _)=>some (.len (bj x))|some .string=>some (.lenT (bj x))|some (.array n _)=>some (.lenA n)|_=>none
 |.max,_,x::y::xs=>some (.mm true (bj x) ((y::xs).map bj))|.min,_,x::y::xs=>some (.mm false (bj x) ((y::xs).map bj))
 |.append,[t,u],[s,x]=>match P.underlying t,P.underlying u with
   |some (.slice e),some (.slice _)=>match P.info? e with
     |some i=>match i.zero with
       |some z=>if z.cells.size=i.size&&z.cells.size !=0 then some (.app e i.size i.bytes (z.cells.toList.map bU) (bj s) (bj x)) else none
       |none=>none
     |none=>none
   |_,_=>none
 |.clear,[t],[x]=>match P.underlying t with
   |some (.slice e)=>match P.info? e with
     |some i=>match i.zero with
       |some z=>if z.cells.size=i.size&&z.cells.toList.all nG then some (.clr i.size (z.cells.toList.map bU) (bj x)) else none
       |none=>none
     |none=>none
   |_=>none
 |_,_,_=>none
def avr (P:Program) (t:TypeId) (x y:Operand):Option l7 :=
 match x,y,P.underlying t with
 |.const (.int _ n),.const (.int _ c),some (.slice e)=>match P.info? e with
   |some i=>match i.zero with
     | some z=>if n=c&&0<n&&n<=1000&&(i.bytes:Int)*n<=2 ^ 40&&i.size != 0 then
        some (.mks e n.toNat (((List.range (n.toNat*i.size)).map (z.cells[· % z.cells.size]!)).map bU)) else none
     |none=>none
   |none=>none
 |_,_,_=>none
def Kp:l7:=.ext (.k (.int .i64 0)) 0
def jw (P:Program) (Bs:List TypeId) (o:Oper):Option l7 :=
 match o.op with
 |.move x=>some (.mov (bj x))
 |.assign x=>some (.mov (bj x))
 |.pick c a b=>some (.pick (bj c) (bj a) (bj b))
 |.alloc t=>(rN P t).map λz=>.new t (z.toList.map bU)
 |.box t x=>some (.box t (bj x))
 |.build t ps=>match P.underlying t,rN P t with
   |some (.struct fs),some z=>match hhi P fs with
     |some pls=>(qc (pls[·]?) ps.toList).map (.agg (z.toList.map bU))
     |none=>none
   |some (.array _ e),some z=>match eI P e with
     |some n=>(qc (λi=>some (i*n,n)) ps.toList).map (.agg (z.toList.map bU))
     |none=>none
   |_,_=>none
 |.buildSlice t len ps=>match P.underlying t with
   |some (.slice e)=>match eI P e,rN P e with
     | some n,some z=>if len*n<=2 ^ 24&&(len*n != 0||z.size==0) then
        (qc (λi=>some (i*n,n)) ps.toList).map (.bsl e len (((List.range (len*n)).map (z[· % z.size]!)).map bU)) else if len*n=0 then(qc (λi=>some (i*n,n)) ps.toList).map (.bsl e len []) else none
     |_,_=>none
   |_=>none
 |.load t a=>match rf P t with
   |some (some n)=>some (.lds n (bj a))
   |some none=>some (.ld (bj a))
   |none=>none
 |.store t a x=>(eI P t).map λn=>.st n (bj a) (bj x)
 |.nilCheck x=>some (.nz (bj x))
 |.binOp op t x y _=>match op,P.underlying t with
   |.eql,some .bool=>some (.eqb false (bj x) (bj y))
   |.neq,some .bool=>some (.eqb true (bj x) (bj y))
   |.eql,some (.struct _)|.eql,some (.array _ _)=>if Bs.contains t then(eI P t).map λn=>.eqa false n (bj x) (bj y) else none
   |.neq,some (.struct _)|.neq,some (.array _ _)=>if Bs.contains t then(eI P t).map λn=>.eqa true n (bj x) (bj y) else none
   |op,some (.int _)|op,some .string=>some (.bin op (bj x) (bj y))
   |.eql,some (.slice _)=>if wk y then some (.isn false (bj x)) else none
   |.neq,some (.slice _)=>if wk y then some (.isn true (bj x)) else none
   |_,_=>none
 |.unOp op _ x=>some (.un op (bj x))
 |.convert s d x=>match P.underlying s,P.underlying d with
   |some _,some (.int k)=>some (.conv k (bj x))
   |_,_=>none
 |.makeFunc f xs ys=>some (.mkf f (xs.toList.map bj) (ys.toList.map bj))
 |.fieldAddr t x i=>match P.underlying t with
   |some (.struct fs)=>match fs[i]? with
     |some f=>match eI P f.type with
       |some n=>if n=0 then none else some (.fa f.offset (bj x))
       |none=>none
     |none=>none
   |_=>none
 |.field t x i=>match P.underlying t with
   |some (.struct fs)=>match fs[i]? with
     |some f=>(rf P f.type).map λn=>.fld f.offset n (bj x)
     |none=>none
   |_=>none
 |.indexAddr t x ix=>match P.underlying t with
   |some (.array n e)=>(eI P e).map λs=>.iaA n s (bj x) (bj ix)
   |some (.slice e)=>(eI P e).map λs=>.iaS s (bj x) (bj ix)
   |_=>none
 |.index t x ix=>match P.underlying t with
   |some (.array n e)=>match eI P e,rf P e with
     |some s,some a=>some (.ixA n s a (bj x) (bj ix))
     |_,_=>none
   |some .string=>some (.ixS (bj x) (bj ix))
   |_=>none
 |.extract x i=>some (.ext (bj x) i)
 |.slice t x lo hi mx=>if mx.isSome&&!hi.isSome then none else match P.underlying t with
   |some (.slice e)=>(eI P e).map λs=>.slS s (bj x) (lo.map bj) (hi.map bj) (mx.map bj)
   |some (.array n e)=>(eI P e).map λs=>.slA n s (bj x) (lo.map bj) (hi.map bj) (mx.map bj)
   |some .string=>if mx.isSome then none else some (.slT (bj x) (lo.map bj) (hi.map bj))
   |_=>none
 |.makeSlice t x y=>avr P t x y
 |.makeInterface ..=>some Kp
 |.panic _=>some Kp
 |.call c=>match c.callee with
   |.value (.func f)=>match P.funcs[f]? with
     |some fn => if fn.name == "runtime.NumGoroutine" || fn.body.isNone then none else some (.call f (c.args.toList.map bj))
     |none=>none
   |.value x=>some (.callv (bj x) (c.args.toList.map bj))
   |.builtin b=>hi3 P b c.argTypes c.args.toList
   |_=>none
 |_=>none
section
variable {P:Program} {B:dP} {Q1:FuncId->ca} {m:aN} {sl:List ak} {lh:List ar} {w:World} {a:Act} {o:Oper} {pl:Option Nat} {At:ak->List ar->Prop}
theorem aO {t:TypeId} {d:TypeDesc} (h:P.underlying t=some d) (w:World):(underlying t).run P w=.ok d w:=by unfold underlying;rw[af (a:=P) (w':=w) rfl];simp only[h];rfl
theorem ep {t:TypeId} {i:TypeInfo} (h:P.info? t=some i) (w:World):(typeInfo t).run P w=.ok i w:=by unfold typeInfo;rw[af (a:=P) (w':=w) rfl];have h':P.toTables.info? t=some i:=h;simp only[h'];rfl
theorem run_sizeOf {t:TypeId} {n:Nat} (h:eI P t=some n) (w:World):(sizeOf t).run P w=.ok n w:=by simp[eI,DZ]at h;obtain⟨i,hi,rfl⟩:=h;unfold sizeOf;rw[af (ep hi w)];rfl
theorem jD {t:TypeId} {z:Array Value} (h:rN P t=some z) (w:World):∃v,v.cells=z/\(zeroValue t).run P w=.ok v w:=by simp only[rN,DZ,Option.bind_eq_some_iff]at h;obtain⟨v,⟨i,hi,hv⟩,rfl⟩:=h;refine⟨v,rfl,?_⟩;unfold zeroValue;rw[af (ep hi w)];simp only[hv];rfl
theorem ln {t:TypeId} {d:TypeDesc} (h:P.underlying t=some d) (w:World):(isAgg t).run P w=.ok (zt d) w:=by unfold isAgg;rw[af (aO h w)];cases d<;>rfl
theorem lr {t:TypeId} {n:Option Nat} (h:rf P t=some n):∃ d,P.underlying t=some d/\((zt d=true/\∃ k,n=some k/\eI P t=some k)∨(zt d=false/\n=none)):=by
 unfold rf at h;split at h
 ·rename_i d i hd hi
  cases h;refine⟨d,hd,?_⟩;cases e:zt d
  ·exact .inr ⟨rfl,rfl⟩
  ·exact .inl ⟨rfl,i.size,au,by simp[eI,hi]⟩
 ·cases h
theorem aeG {x:Operand} (ho:o.op=.move x∨o.op=.assign x) (hs:aC m sl a.tmps.toList) (h:bh B m lh w) (hv:dK B.w0 Q1 sl lh pl At (.mov (bj x))):dz P o a w (D5 B m lh At) :=
 .inl ⟨a.eval x,w,by rcases ho with ho|ho<;>(simp only[execOp,ho];rfl),D5.same h (bc hs x) hv⟩
theorem js {m:aN} {b:Bool} {v:Value} (h:C5 m (.bool b) v):v=.bool b:=by simpa[C5] using h
theorem fV {m:aN} {k:IntKind} {n:Int} {v:Value} (h:C5 m (.int k n) v):v=.int k n:=by simpa[C5] using h
theorem pM {m:aN} {s:ByteArray} {v:Value} (h:C5 m (.str s) v):v=.string s:=by simpa[C5] using h
theorem hpq {c x y:Operand} (ho:o.op=.pick c x y) (hs:aC m sl a.tmps.toList) (h:bh B m lh w) (hv:dK B.w0 Q1 sl lh pl At (.pick (bj c) (bj x) (bj y))):dz P o a w (D5 B m lh At):=by
 have hc:=bc hs c;simp[dK]at hv;split at hv
 ·rename_i t ht
  rw[ht]at hc;have hc:=js hc;refine .inl ⟨if t then a.eval x else a.eval y,w,?_,?_⟩
  ·simp only[execOp,ho,hc,asBool];rfl
  ·cases t
   ·exact D5.same h (bc hs y) (hv.2 rfl)
   ·exact D5.same h (bc hs x) (hv.1 rfl)
 ·exact hv.elim
theorem hjf {t:TypeId} {v:Value} (w:World):(newVar t v).run P w=.ok ⟨w.heap.size,0,none⟩ { w with heap:=w.heap.push (.cells v.cells t (0,0)) }:=rfl
theorem lB {t:TypeId} {c:Array Value} (w:World):(newRow t c).run P w=.ok ⟨w.heap.size,0,none⟩ { w with heap:=w.heap.push (.cells c t (0,0)) }:=rfl
theorem if6 {t:TypeId} {z:Array Value} (ho:o.op=.alloc t) (hz:rN P t=some z) (h:bh B m lh w) (hv:dK B.w0 Q1 sl lh pl At (.new t (z.toList.map bU))):dz P o a w (D5 B m lh At):=by
 let ⟨v,Wq,hrun⟩:=jD hz w
 simp[dK]at hv
 let ⟨p,m',lh',M,N,h3,h4⟩:=iD h (vs:=z) (cv m z.toList) hv
 refine bg (s:=Instr.alloc t true (.tuple #[])) (v:=.pointer (some ⟨w.heap.size,0,none⟩)) (by simp[execOp,ho]) ?_ ⟨_,m',lh',?_,N,h3,h4⟩
 ·unfold Instr.alloc;rw[af hrun];show(do pure (Value.pointer (some (← newVar t v))):Sem Value).run P w=_;rw[af (hjf w),Wq];rfl
 ·simp only[C5];exact⟨_,rfl,_,M,rfl⟩
theorem iw2 {t:TypeId} {x:Operand} (ho:o.op=.box t x) (hs:aC m sl a.tmps.toList) (h:bh B m lh w) (hv:dK B.w0 Q1 sl lh pl At (.box t (bj x))):dz P o a w (D5 B m lh At):=by
 simp[dK]at hv
 let ⟨hf,hv⟩:=hv
 let ⟨hc,_⟩:=og (bc hs x) hf
 let ⟨p,m',lh',M,N,h3,h4⟩:=iD h hc hv
 refine bg (s:=Instr.box t (a.eval x)) (v:=.pointer (some ⟨w.heap.size,0,none⟩)) (by simp[execOp,ho]) ?_ ⟨_,m',lh',?_,N,h3,h4⟩
 ·unfold Instr.box;rw[af (hjf w)];rfl
 ·simp only[C5];exact⟨_,rfl,_,M,rfl⟩
theorem Av (off:Nat):∀ (l:List Value) (j:Nat) (cs:Array Value),((l.zipIdx j).foldl (λ(cs:Array Value) (p:Value×Nat)=>cs.setIfInBounds (off+p.2) p.1) cs).toList =
 (l.foldl (λ(acc:List Value×Nat) v=>(acc.1.set acc.2 v,acc.2+1)) (cs.toList,off+j)).1
 |[],_,_=>rfl
 |v::l,j,cs=>by simp[List.zipIdx_cons,List.foldl_cons];rw[Av off l (j+1)];simp[OQ];rfl
theorem aaN {m:aN}:∀ (xs:List ak) (us:List Value) (cs:List ak) (vs:List Value) (off:Nat),aC m xs us->aC m cs vs ->
 aC m (wr cs off xs) (us.foldl (λ(acc:List Value×Nat) v=>(acc.1.set acc.2 v,acc.2+1)) (vs,off)).1
 |[],us,cs,vs,off,hx,hc=>by simp[aC]at hx;subst hx;exact hc
 |x::xs,us,cs,vs,off,hx,hc=>by simp[aC]at hx;obtain⟨u,us,rfl,M,N⟩:=hx;simp[wr,List.foldl_cons];exact aaN xs us _ _ _ N (lc off hc M)
theorem kg {pls:Nat->Option (Nat×Nat)} (hs:aC m sl a.tmps.toList):∀ (ps:List (Nat×Operand)) (qs:List (Nat×Nat×gk)) (z:List ak) (zs:Array Value) (At:List ak->Prop),
 qc pls ps=some qs->aC m z zs.toList->parts sl qs z At->∃cs vs,Instr.fill pls zs (ps.map λ(i,x)=>(i,a.eval x))=some vs/\aC m cs vs.toList/\At cs
 |[],qs,z,zs,At,hc,hz,hp=>by simp[qc,DJ]at hc;subst hc;exact⟨z,zs,by simp[Instr.fill],hz,hp⟩
 |(i,x)::ps,qs,z,zs,At,hc,hz,hp=>by
   simp[qc]at hc;split at hc
   ·rename_i off n l Sd hl
    cases hc;simp[parts]at hp
    let ⟨hf,hn,R8,hp⟩:=hp
    let ⟨M,_⟩:=og (bc hs x) hf
    have YI:=c7 M;have s9:=c7 hz;simp[JH]at YI s9;have hw:=aaN _ _ _ _ off M hz;rw[show off=off+0 from rfl,← Av off _ 0 zs]at hw
    let ⟨cs,vs,h3,h4,h5⟩:=kg hs ps l (wr z off (arg sl (bj x)).cells) _ At hl hw hp
    refine⟨cs,vs,?_,h4,h5⟩;simp only[E8,Instr.fill,Sd];rw[C4 (by simp;omega)];rw[← h3];congr 1;rw[← Array.foldl_toList,Array.toList_zipIdx]
   ·cases hc
theorem hh2:∀ (fs:List Field) (pls:List (Nat×Nat)),(fs.mapM λf=>(eI P f.type).map λn=>(f.offset,n))=some pls->∀ w,
 (fs.mapM (m:=Sem) λf=>do pure (f.offset,← sizeOf f.type)).run P w=.ok pls w
 |[],pls,h,w=>by simp at h;subst h;rfl
 |f::fs,pls,h,w=>by simp only[JS,Option.pure_def,Option.bind_eq_bind,Option.bind_eq_some_iff,DZ,DJ]at h;obtain⟨a,⟨n,hn,rfl⟩,l,hl,rfl⟩:=h;simp only[JS];rw[af (a:=(f.offset,n)) (w':=w) (by rw[af (run_sizeOf hn w)];rfl)];rw[af (hh2 fs l hl w)];rfl
end
end Go.Sx
namespace Go.Sx
section
variable {P:Program} {B:dP} {Q1:FuncId->ca} {m:aN} {sl:List ak} {lh:List ar} {w:World} {a:Act} {o:Oper} {pl:Option Nat} {At:ak->List ar->Prop}
theorem sH {cs:List ak} {v:Value} (h:C5 m (.agg cs) v):∃vs,v=.agg vs/\aC m cs vs.toList:=by simpa[C5] using h
theorem jZ {p:Option jh} {v:Value} (h:C5 m (.ptr p) v):∃Pw,v=.pointer Pw/\eg m p Pw:=by simpa[C5] using h
theorem gA {p:Option jh} {n c:Nat} {v:Value} (h:C5 m (.slice p n c) v):∃Pw,v=.slice Pw n c/\eg m p Pw:=by simpa[C5] using h
theorem Ac {p:jh} {Pw:Option Addr} (h:eg m (some p) Pw):∃ a,Pw=some a/\eg m (some p) (some a):=by
 cases p with
 |l k off=>obtain⟨b,hb,rfl⟩:=h;exact⟨_,rfl,b,hb,rfl⟩|g a=>simp[eg]at h;subst h;exact⟨a,rfl,rfl⟩
theorem fy22 {fs:Array Field} {pls:List (Nat×Nat)} (h:hhi P fs=some pls) (w:World) :
 (fs.mapM (m:=Sem) λf=>do pure (f.offset,← sizeOf f.type)).run P w=.ok pls.toArray w:=by
 have M:=hh2 (P:=P) fs.toList pls h w;have e:(fs.mapM (m:=Sem) λf=>do pure (f.offset,← sizeOf f.type))=(do pure (← fs.toList.mapM (m:=Sem) λf=>do pure (f.offset,← sizeOf f.type)).toArray):=by rw[Array.mapM_eq_mapM_toList];rfl
 rw[e,af M];rfl
theorem hpa {t:TypeId} {ps:Array (Nat×Operand)} {i:l7} {Bs:List TypeId} (ho:o.op=.build t ps) (hc:jw P Bs o=some i) (hs:aC m sl a.tmps.toList) (h:bh B m lh w)
 (hv:dK B.w0 Q1 sl lh pl At i):dz P o a w (D5 B m lh At):=by
 simp[jw,ho]at hc;split at hc
 ·rename_i fs z hu hz
  split at hc
  ·rename_i pls Sd
   simp[DZ]at hc;obtain⟨qs,hq,rfl⟩:=hc;simp[dK]at hv
   let ⟨cs,vs,M,N,h3⟩:=kg hs ps.toList qs _ z _ hq (cv m z.toList) hv
   let ⟨v,Wq,hrun⟩:=jD hz w
   refine bg (s:=Instr.build t (ps.map λ(i,x)=>(i,a.eval x))) (v:=.agg vs) (by simp only[execOp,ho]) ?_ (D5.same h (by simp only[C5];exact⟨_,rfl,N⟩) h3);unfold Instr.build;rw[af hrun,af (aO hu w)];dsimp only
   rw[af (fy22 Sd w)];have e:(λx:Nat=>pls.toArray[x]?)=(λx:Nat=>pls[x]?):=by funext x;simp
   simp only[e,HF,Wq,M];rfl
  ·cases hc
 ·rename_i n e z hu hz
  split at hc
  ·rename_i sz RI
   simp[DZ]at hc;obtain⟨qs,hq,rfl⟩:=hc;simp[dK]at hv
   let ⟨cs,vs,M,N,h3⟩:=kg hs ps.toList qs _ z _ hq (cv m z.toList) hv
   let ⟨v,Wq,hrun⟩:=jD hz w
   refine bg (s:=Instr.build t (ps.map λ(i,x)=>(i,a.eval x))) (v:=.agg vs) (by simp only[execOp,ho]) ?_ (D5.same h (by simp only[C5];exact⟨_,rfl,N⟩) h3);unfold Instr.build;rw[af hrun,af (aO hu w)];dsimp only
   rw[af (run_sizeOf RI w)];simp only[HF,Wq,M];rfl
  ·cases hc
 ·cases hc
theorem agf {t:TypeId} {x:Operand} {i:l7} {Bs:List TypeId} (ho:o.op=.load t x) (hc:jw P Bs o=some i) (hs:aC m sl a.tmps.toList) (h:bh B m lh w)
 (hv:dK B.w0 Q1 sl lh pl At i):dz P o a w (D5 B m lh At):=by
 simp[jw,ho]at hc;have hx:=bc hs x;split at hc
 ·rename_i n hn
  cases hc;simp[dK]at hv;split at hv
  ·rename_i p hp
   rw[hp]at hx
   let ⟨Pw,hq,SC⟩:=jZ hx
   let ⟨cs,Uv,hK⟩:=hv
   obtain⟨ad,vs,rfl,hrun,hr⟩:=uz (P:=P) h SC Uv
   let ⟨d,hd,VC⟩:=lr hn
   rcases VC with ⟨M,k,hk,N⟩|⟨_,hk⟩
   ·cases hk;refine bg (s:=Instr.loadAt t (a.eval x)) (v:=.agg vs) (by simp only[execOp,ho]) ?_ (D5.same h (by simp only[C5];exact⟨_,rfl,hr⟩) hK);unfold Instr.loadAt;rw[hq,af (a:=ad) (w':=w) rfl];unfold loadVar;rw[af (ln hd w),M];simp only[EN];rw[af (run_sizeOf N w),af hrun];rfl
   ·cases hk
  ·exact hv.elim
 ·rename_i hn
  cases hc;simp[dK]at hv;split at hv
  ·rename_i p hp
   rw[hp]at hx
   let ⟨Pw,hq,SC⟩:=jZ hx
   let ⟨r,Uv,hK⟩:=hv
   obtain⟨ad,v,rfl,hrun,hr⟩:=R59 h SC Uv
   let ⟨d,hd,VC⟩:=lr hn
   rcases VC with ⟨_,k,hk,_⟩|⟨M,_⟩
   ·cases hk
   ·refine bg (s:=Instr.loadAt t (a.eval x)) (v:=v) (by simp[execOp,ho]) ?_ (D5.same h hr hK);unfold Instr.loadAt;rw[hq,af (a:=ad) (w':=w) rfl];unfold loadVar;rw[af (ln hd w),M];exact yo hrun
  ·exact hv.elim
 ·cases hc
theorem aji {t:TypeId} {x y:Operand} {n:Nat} (ho:o.op=.store t x y) (hn:eI P t=some n) (hs:aC m sl a.tmps.toList) (h:bh B m lh w)
 (hv:dK B.w0 Q1 sl lh pl At (.st n (bj x) (bj y))):dz P o a w (D5 B m lh At):=by
 have hx:=bc hs x;simp[dK]at hv;split at hv
 ·rename_i k off hp
  rw[hp]at hx
  let ⟨Pw,hq,SC⟩:=jZ hx
  obtain⟨b,hb,rfl⟩:=SC
  let ⟨cs,ty,hk,hf,hl,R8,hK⟩:=hv
  let ⟨Td,Ut⟩:=og (bc hs y) hf
  let ⟨w',hrun,hrel⟩:=bh.stores (P:=P) (off:=off) hb (arg sl (bj y)).cells _ cs lh w 0 h hk K Td Ut
  refine hn0 (s:=Instr.storeAt t (a.eval x) (a.eval y)) (w':=w') (by simp[execOp,ho]) ?_ (D5.store (r:=.tup []) hk hrel (by simp[C5,aC,undef]) hK);unfold Instr.storeAt;rw[hq,af (a:=(⟨b,off,none⟩:Addr)) (w':=w) rfl];unfold storeVar;rw[af (run_sizeOf hn w)];have YI:=c7 Td;simp[JH]at YI;rw[C4 K];exact hrun
 ·exact hv.elim
theorem ah9 {x:Operand} (ho:o.op=.nilCheck x) (hs:aC m sl a.tmps.toList) (h:bh B m lh w) (hv:dK B.w0 Q1 sl lh pl At (.nz (bj x))):dz P o a w (D5 B m lh At):=by
 have hx:=bc hs x;simp[dK]at hv;split at hv
 ·rename_i p hp
  rw[hp]at hx
  let ⟨Pw,hq,SC⟩:=jZ hx
  obtain⟨ad,rfl,Uw⟩:=Ac SC;exact .inl ⟨_,w,by simp only[execOp,ho,hq];rfl,D5.same h (by simp only[C5];exact⟨_,rfl,Uw⟩) hv⟩
 ·rename_i f xs ys hp
  rw[hp]at hx;have Sz:=hx;simp[C5]at Sz
  let ⟨us,vs,hq,_⟩:=Sz
  exact .inl ⟨_,w,by simp[execOp,ho,hq];rfl,D5.same h (by rw[hq]at hx;exact hx) hv⟩
 ·exact hv.elim
theorem hmk {op:BinOp} {t:TypeId} {x y:Operand} {k:IntKind} {n:Int} {v:Value} (w:World):(eqGuard op t x y (.int k n) v).run P w=.ok () w:=by cases op<;>rfl
theorem hm0 {op:BinOp} {t:TypeId} {x y:Operand} {s:ByteArray} {v:Value} (w:World):(eqGuard op t x y (.string s) v).run P w=.ok () w:=by cases op<;>rfl
theorem hlj {op:BinOp} {t:TypeId} {x y:Operand} {b:Bool} {v:Value} (w:World):(eqGuard op t x y (.bool b) v).run P w=.ok () w:=by cases op<;>rfl
theorem vI {k:IntKind} {n:Int}:C5 m (.int k n) (.int k n):=by simp[C5]
theorem vB {b:Bool}:C5 m (.bool b) (.bool b):=by simp[C5]
theorem hi1 {s:ByteArray}:C5 m (.str s) (.string s):=by simp[C5]
theorem hne {op:BinOp} {k:IntKind} {x y:Int} {t:TypeId} {K':ak->Prop} (w:World) (h:uh op k x y K'):∃ r v,C5 m r v/\K' r/\(binOp op t (.int k x) (.int k y)).run P w=.ok v w:=by
 cases op<;>simp[uh]at h<;>try exact h.elim
 case add=>exact⟨_,_,vI,h,by simp[binOp,Op.intArith]⟩
 case sub=>exact⟨_,_,vI,h,by simp[binOp,Op.intArith]⟩
 case mul=>exact⟨_,_,vI,h,by simp[binOp,Op.intArith]⟩
 case quo=>exact⟨_,_,vI,h.2,by simp[binOp,Op.intDiv,h.1]⟩
 case rem=>exact⟨_,_,vI,h.2,by simp[binOp,Op.intDiv,h.1]⟩
 case eql=>exact⟨_,_,vB,h,by simp[binOp,Op.intCmp]⟩
 case neq=>exact⟨_,_,vB,h,by simp[binOp,Op.intCmp]⟩
 case lss=>exact⟨_,_,vB,h,by simp[binOp,Op.intCmp]⟩
 case leq=>exact⟨_,_,vB,h,by simp[binOp,Op.intCmp]⟩
 case gtr=>exact⟨_,_,vB,h,by simp[binOp,Op.intCmp]⟩
 case geq=>exact⟨_,_,vB,h,by simp[binOp,Op.intCmp]⟩
 case and=>exact⟨_,_,vI,h,by simp only[binOp,ne_eq,K4,EC,intBits_and];rfl⟩
 case or=>exact⟨_,_,vI,h,by simp only[binOp,ne_eq,K4,EC,intBits_or];rfl⟩
 case xor=>exact⟨_,_,vI,h,by simp only[binOp,ne_eq,K4,EC,intBits_xor];rfl⟩
 case shl=>exact⟨_,_,vI,h.2,by simp only[binOp,Op.shift];rw[C4 (Int.not_lt.2 h.1)];rfl⟩
 case shr=>exact⟨_,_,vI,h.2,by simp only[binOp,Op.shift];rw[C4 (Int.not_lt.2 h.1)];rfl⟩
theorem hmx {op:BinOp} {x y:ByteArray} {t:TypeId} {K':ak->Prop} (w:World) (h:CB op x y K'):∃ r v,C5 m r v/\K' r/\(binOp op t (.string x) (.string y)).run P w=.ok v w:=by
 cases op<;>simp only[CB]at h<;>try exact h.elim
 case eql=>exact⟨_,_,vB,h,by simp only[binOp,Op.stringOp];rfl⟩
 case neq=>exact⟨_,_,vB,h,by simp only[binOp,Op.stringOp];rfl⟩
 case add=>exact⟨_,_,hi1,h.2,by simp only[binOp,Op.stringOp];rw[C4 (Int.not_lt.2 h.1)];rfl⟩
theorem awJ {op:BinOp} {t u:TypeId} {x y:Operand} (ho:o.op=.binOp op t x y u) (hs:aC m sl a.tmps.toList) (h:bh B m lh w) (hv:dK B.w0 Q1 sl lh pl At (.bin op (bj x) (bj y))):dz P o a w (D5 B m lh At):=by
 have hx:=bc hs x;have hy:=bc hs y;simp[dK,Q6]at hv;split at hv
 ·rename_i k p k' Pw hp hq
  rw[hp]at hx;rw[hq]at hy;have hx:=fV hx;have hy:=fV hy
  let ⟨rfl,hv⟩:=hv
  let ⟨r,v,N,h3,M⟩:=hne (P:=P) (t:=t) (m:=m) w hv
  refine bg (s:=do eqGuard op t x y (a.eval x) (a.eval y);binOp op t (a.eval x) (a.eval y)) (v:=v) (by simp[execOp,ho]) ?_ (D5.same h N h3);rw[hx,hy,af (hmk w)];exact M
 ·rename_i p Pw hp hq
  rw[hp]at hx;rw[hq]at hy;have hx:=pM hx;have hy:=pM hy
  let ⟨r,v,N,h3,M⟩:=hmx (P:=P) (t:=t) (m:=m) w hv
  refine bg (s:=do eqGuard op t x y (a.eval x) (a.eval y);binOp op t (a.eval x) (a.eval y)) (v:=v) (by simp[execOp,ho]) ?_ (D5.same h N h3);rw[hx,hy,af (hm0 w)];exact M
 ·exact hv.elim
end
end Go.Sx
namespace Go.Sx
section
variable {P:Program} {B:dP} {Q1:FuncId->ca} {m:aN} {sl:List ak} {lh:List ar} {w:World} {a:Act} {o:Oper} {pl:Option Nat} {At:ak->List ar->Prop}
theorem fza4 (n:Nat) (z:Array Value):((Array.range n).map (z[· % z.size]!)).toList=(List.range n).map (z[· % z.size]!):=by simp
theorem ig3 {t:TypeId} {len:Nat} {ps:Array (Nat×Operand)} {i:l7} {Bs:List TypeId} (ho:o.op=.buildSlice t len ps) (hc:jw P Bs o=some i) (hs:aC m sl a.tmps.toList) (h:bh B m lh w)
 (hv:dK B.w0 Q1 sl lh pl At i):dz P o a w (D5 B m lh At):=by
 simp only[jw,ho]at hc;split at hc
 ·rename_i e hu
  split at hc
  ·rename_i n z hn hz
   let ⟨v,Wq,hrun⟩:=jD hz w
   split at hc
   ·rename_i hcond
    simp only[D2,E0,Gy,bne_iff_ne,Ek]at hcond;simp only[DZ]at hc;obtain⟨qs,hq,rfl⟩:=hc;simp only[dK]at hv
    let ⟨cs,vs,M,N,h3⟩:=kg hs ps.toList qs _ ((Array.range (len*n)).map (z[· % z.size]!)) _ hq (by rw[fza4];exact cv m _) hv
    let ⟨p,m',lh',g1,g2,g3,g4⟩:=iD h N h3
    refine bg (s:=Instr.buildSlice t len (ps.map λ(i,x)=>(i,a.eval x))) (v:=.slice (some ⟨w.heap.size,0,none⟩) len len) (by simp only[execOp,ho]) ?_
     ⟨_,m',lh',by simp only[C5];exact⟨_,rfl,_,g1,rfl⟩,g2,g3,g4⟩
    unfold Instr.buildSlice;rw[af (aO hu w)];dsimp only
    rw[af (run_sizeOf hn w),C4 K];by_cases UL:len*n=0
    ·rw[CV UL]
     have ae:z.size=0:=hcond.2.resolve_left (λc=>c UL);have nx12:z=#[]:=Array.eq_empty_of_size_eq_zero ae;subst nx12;simp only[pure_bind,HF];simp only[UL]at M ⊢;rw[M];dsimp only
     rw[af (lB w)];rfl
    ·rw[C4 UL];rw[af hrun,pure_bind,Wq];simp only[HF,M];rw[af (lB w)];rfl
   ·split at hc
    ·rename_i UL
     simp only[DZ]at hc;obtain⟨qs,hq,rfl⟩:=hc;simp only[dK]at hv
     let ⟨cs,vs,M,N,h3⟩:=kg hs ps.toList qs [] #[] _ hq (by simp[aC]) hv
     let ⟨p,m',lh',g1,g2,g3,g4⟩:=iD h N h3
     refine bg (s:=Instr.buildSlice t len (ps.map λ(i,x)=>(i,a.eval x))) (v:=.slice (some ⟨w.heap.size,0,none⟩) len len) (by simp only[execOp,ho]) ?_
      ⟨_,m',lh',by simp only[C5];exact⟨_,rfl,_,g1,rfl⟩,g2,g3,g4⟩
     unfold Instr.buildSlice;rw[af (aO hu w)];dsimp only
     rw[af (run_sizeOf hn w),C4 K,CV UL];simp only[pure_bind,HF];have e:(Array.range (len*n)).map (λx=>(#[]:Array Value)[x % (#[]:Array Value).size]!)=#[]:=by rw[UL];simp[Array.range]
     rw[e,M];dsimp only
     rw[af (lB w)];rfl
    ·cases hc
  ·cases hc
 ·cases hc
theorem am1 {t u:TypeId} {x y:Operand} {op:BinOp} {neg:Bool} (U4:op=if neg then .neq else .eql) (ho:o.op=.binOp op t x y u) (hu:P.underlying t=some .bool) (hs:aC m sl a.tmps.toList) (h:bh B m lh w)
 (hv:dK B.w0 Q1 sl lh pl At (.eqb neg (bj x) (bj y))):dz P o a w (D5 B m lh At):=by
 have hx:=bc hs x;have hy:=bc hs y;simp[dK]at hv;split at hv
 ·rename_i p Pw hp hq
  rw[hp]at hx;rw[hq]at hy;have hx:=js hx;have hy:=js hy;refine bg (s:=do eqGuard op t x y (a.eval x) (a.eval y);binOp op t (a.eval x) (a.eval y)) (by simp[execOp,ho]) ?_ (D5.same h vB hv);rw[hx,hy,af (hlj w)];have he:(Op.equal t (.bool p) (.bool Pw)).run P w=.ok (p==Pw) w:=by unfold Op.equal Op.maxDepth Op.equalIn;rw[af (aO hu w)];rfl
  subst U4;cases neg
  ·simp only[Ee,EC,binOp];rw[af he];rfl
  ·simp only[EN,binOp];rw[af he];rfl
 ·exact hv.elim
theorem ic17 {op:BinOp} {t:TypeId} {x y:Operand} {Pw:Option Addr} {n c:Nat} {v:Value} (w:World):(eqGuard op t x y (.slice Pw n c) v).run P w=.ok () w:=by unfold eqGuard;cases op<;>rfl
theorem auy {t u e:TypeId} {x y:Operand} {op:BinOp} {neg:Bool} (U4:op=if neg then .neq else .eql) (ho:o.op=.binOp op t x y u) (hu:P.underlying t=some (.slice e)) (hy:wk y=true) (hs:aC m sl a.tmps.toList) (h:bh B m lh w)
 (hv:dK B.w0 Q1 sl lh pl At (.isn neg (bj x))):dz P o a w (D5 B m lh At):=by
 have hx:=bc hs x;have nx11:a.eval y=.slice none 0 0:=by
  unfold wk at hy;split at hy
  ·rfl
  ·cases hy
 simp only[dK]at hv;split at hv
 ·rename_i p n c hp
  rw[hp]at hx
  let ⟨Pw,hq,SC⟩:=gA hx
  have hpq':p.isNone=Pw.isNone:=by
   cases p with
   |none=>simp only[eg]at SC;subst SC;rfl
   |some p=>
     cases p with
     |g a=>simp only[eg]at SC;subst SC;rfl|l k off=>obtain⟨b,_,rfl⟩:=SC;rfl
  rw[hpq']at hv;refine bg (s:=do eqGuard op t x y (a.eval x) (a.eval y);binOp op t (a.eval x) (a.eval y)) (by simp only[execOp,ho]) ?_ (D5.same h vB hv);rw[hq,nx11,af (ic17 w)];have he:(Op.equal t (.slice Pw n c) (.slice none 0 0)).run P w=.ok Pw.isNone w:=by unfold Op.equal Op.maxDepth Op.equalIn;rw[af (aO hu w)];cases Pw<;>rfl
  subst U4;cases neg
  ·simp only[Ee,EC,binOp];rw[af he];rfl
  ·simp only[EN,binOp];rw[af he];rfl
 ·exact hv.elim
theorem wK {t u:TypeId} {x y:Operand} {op:BinOp} {neg:Bool} {n:Nat} (hn:eI P t=some n) (U4:op=if neg then .neq else .eql) (ho:o.op=.binOp op t x y u) (he:dM P t) (hs:aC m sl a.tmps.toList) (h:bh B m lh w)
 (hv:dK B.w0 Q1 sl lh pl At (.eqa neg n (bj x) (bj y))):dz P o a w (D5 B m lh At):=by
 have hx:=bc hs x;have hy:=bc hs y;simp only[dK]at hv;split at hv
 ·rename_i xs ys hp hq
  rw[hp]at hx;rw[hq]at hy
  let ⟨us,notf,TO⟩:=sH hx
  let ⟨vs,nu10,R3⟩:=sH hy
  let ⟨hlen,b,hb,hK⟩:=hv
  refine bg (s:=do eqGuard op t x y (a.eval x) (a.eval y);binOp op t (a.eval x) (a.eval y)) (by simp[execOp,ho]) ?_ (D5.same h vB hK);have hg:(eqGuard op t x y (.agg us) (.agg vs)).run P w=.ok () w:=by
   subst U4;unfold eqGuard;cases neg
   ·simp only[Ee,EC,HM];rw[af (a:=P) (w':=w) rfl,af (a:=P) (w':=w) rfl,he.1];rfl
   ·simp only[EN,HM,Ee,EC];rw[af (a:=P) (w':=w) rfl,af (a:=P) (w':=w) rfl,he.1];rfl
  rw[notf,nu10,af hg];have he2:=he.2 n hn xs ys us vs m b w hlen TO R3 hb;subst U4;cases neg
  ·simp only[Ee,EC,binOp];rw[af he2];rfl
  ·simp only[EN,binOp];rw[af he2];rfl
 ·exact hv.elim
theorem alM {op:UnOp} {t:TypeId} {x:Operand} (ho:o.op=.unOp op t x) (hs:aC m sl a.tmps.toList) (h:bh B m lh w) (hv:dK B.w0 Q1 sl lh pl At (.un op (bj x))):dz P o a w (D5 B m lh At):=by
 have hx:=bc hs x;simp only[dK]at hv;split at hv
 ·rename_i k n hp;rw[hp]at hx;exact bg (s:=Op.unary .neg (a.eval x)) (by simp only[execOp,ho]) (by rw[fV hx];rfl) (D5.same h vI hv)
 ·rename_i b hp;rw[hp]at hx;exact bg (s:=Op.unary .not (a.eval x)) (by simp[execOp,ho]) (by rw[js hx];rfl) (D5.same h vB hv)
 ·exact hv.elim
theorem hvx {s d:TypeId} {ds:TypeDesc} {k:IntKind} {x:Operand} (ho:o.op=.convert s d x) (U5:P.underlying s=some ds) (hd:P.underlying d=some (.int k)) (hs:aC m sl a.tmps.toList) (h:bh B m lh w)
 (hv:dK B.w0 Q1 sl lh pl At (.conv k (bj x))):dz P o a w (D5 B m lh At):=by
 have hx:=bc hs x
 simp[dK]at hv
 split at hv
 ·rename_i k' n hp
  rw[hp]at hx
  refine bg (s:=convert s d (a.eval x)) (by simp[execOp,ho]) ?_ (D5.same h vI hv)
  rw[fV hx]
  unfold convert
  rw[af (aO U5 w),af (aO hd w)];rfl
 ·exact hv.elim
theorem szB {f:Fn} {xs ys:Array Operand} (ho:o.op=.makeFunc f xs ys) (hs:aC m sl a.tmps.toList) (h:bh B m lh w) (hv:dK B.w0 Q1 sl lh pl At (.mkf f (xs.toList.map bj) (ys.toList.map bj))) :
 dz P o a w (D5 B m lh At):=by
 refine bg (s:=Instr.makeFunc f (xs.map a.eval) (ys.map a.eval)) (by simp[execOp,ho]) rfl (D5.same h ?_ hv);simp only[C5];exact⟨_,_,rfl,by rw[HF];exact iw hs _,by rw[HF];exact iw hs _⟩
theorem afY {t:TypeId} {x:Operand} {i:Nat} {fs:Array Field} {f:Field} {n:Nat} (ho:o.op=.fieldAddr t x i) (hu:P.underlying t=some (.struct fs)) (hf:fs[i]? = some f) (hn:eI P f.type=some n) (U1:n≠0)
 (hs:aC m sl a.tmps.toList) (h:bh B m lh w) (hv:dK B.w0 Q1 sl lh pl At (.fa f.offset (bj x))):dz P o a w (D5 B m lh At):=by
 have hx:=bc hs x;simp[dK]at hv;split at hv
 ·rename_i p hp
  rw[hp]at hx
  let ⟨Pw,hq,SC⟩:=jZ hx
  obtain⟨ad,rfl,Uw⟩:=sY SC f.offset;refine bg (s:=Instr.fieldAt t (a.eval x) i) (v:=.pointer (some (ad.add f.offset))) (by simp only[execOp,ho]) ?_ (D5.same h (by simp only[C5];exact⟨_,rfl,Uw⟩) hv);unfold Instr.fieldAt;rw[af (aO hu w)];dsimp only
  rw[hf];dsimp only
  rw[hq,af (a:=ad) (w':=w) rfl];unfold fieldPlace;rw[af (a:=ad.add f.offset) (w':=w) (by rw[af (run_sizeOf hn w),C4 U1];rfl)];rfl
 ·exact hv.elim
theorem hfa {t:TypeId} {n:Nat} (h:rf P t=some (some n)) (cs:Array Value) (off:Nat) (w:World):(part t cs off).run P w=.ok (.agg (cs.extract off (off+n))) w:=by
 let ⟨d,hd,VC⟩:=lr h
 rcases VC with ⟨M,k,hk,N⟩|⟨_,hk⟩
 ·cases hk;unfold part;rw[af (ln hd w),M];simp only[EN];rw[af (run_sizeOf N w)];rfl
 ·cases hk
theorem hfl {t:TypeId} (h:rf P t=some none) (cs:Array Value) (off:Nat) {v:Value} (hv:cs[off]? = some v) (w:World):(part t cs off).run P w=.ok v w:=by
 let ⟨d,hd,VC⟩:=lr h
 rcases VC with ⟨_,k,hk,_⟩|⟨M,_⟩
 ·cases hk
 ·unfold part;rw[af (ln hd w),M];simp only[Ee,EC,hv];rfl
theorem hf0 {cs:List ak} {vs:Array Value} (h:aC m cs vs.toList) (off n:Nat):aC m ((cs.drop off).take n) (vs.extract off (off+n)).toList:=by have:=fK n (gz off h);rw[Array.toList_extract];simpa[List.extract_eq_take_drop] using this
theorem sho {t:TypeId} {x:Operand} {i:Nat} {fs:Array Field} {f:Field} {n:Option Nat} (ho:o.op=.field t x i) (hu:P.underlying t=some (.struct fs)) (hf:fs[i]? = some f) (hn:rf P f.type=some n)
 (hs:aC m sl a.tmps.toList) (h:bh B m lh w) (hv:dK B.w0 Q1 sl lh pl At (.fld f.offset n (bj x))):dz P o a w (D5 B m lh At):=by
 have hx:=bc hs x;simp[dK]at hv;split at hv
 ·rename_i cs hp
  rw[hp]at hx
  let ⟨vs,hq,R3⟩:=sH hx
  have hrun:∀ {v:Value},(part f.type vs f.offset).run P w=.ok v w->(Instr.field t (a.eval x) i).run P w=.ok v w:=λhr=>by
   unfold Instr.field;rw[af (aO hu w)];dsimp only
   rw[hf];dsimp only
   rw[hq,af (a:=vs) (w':=w) rfl];exact hr
  cases n with
  |some n=>exact bg (s:=Instr.field t (a.eval x) i) (by simp only[execOp,ho]) (hrun (hfa hn vs f.offset w)) (D5.same h (by simp only[C5];exact⟨_,rfl,hf0 R3 _ _⟩) hv)
  |none=>
    let ⟨r,hr,hK⟩:=hv
    let ⟨v,hv,Vn⟩:=jy _ R3 hr
    exact bg (s:=Instr.field t (a.eval x) i) (by simp[execOp,ho]) (hrun (hfl hn vs f.offset (by simpa using hv) w)) (D5.same h Vn hK)
 ·exact hv.elim
theorem nc2 {t:TypeId} {x ix:Operand} {n esz:Nat} {e:TypeId} (ho:o.op=.indexAddr t x ix) (hu:P.underlying t=some (.array n e)) (he:eI P e=some esz) (hs:aC m sl a.tmps.toList) (h:bh B m lh w)
 (hv:dK B.w0 Q1 sl lh pl At (.iaA n esz (bj x) (bj ix))):dz P o a w (D5 B m lh At):=by
 have hx:=bc hs x;have hy:=bc hs ix;simp[dK]at hv;split at hv
 ·rename_i p k i hp hi
  rw[hp]at hx;rw[hi]at hy
  let ⟨Pw,hq,SC⟩:=jZ hx
  let ⟨M,N,hK⟩:=hv
  obtain⟨ad,rfl,Uw⟩:=sY SC (i.toNat*esz);refine bg (s:=Instr.indexAt t (a.eval x) (a.eval ix)) (by simp only[execOp,ho]) ?_ (D5.same h (v:=.pointer (some (ad.add (i.toNat*esz)))) (by simp only[C5];exact⟨_,rfl,Uw⟩) hK);unfold Instr.indexAt;rw[fV hy,af (a:=(k,i)) (w':=w) rfl,af (aO hu w),hq];dsimp only
  rw[af (a:=ad) (w':=w) rfl,pure_bind];dsimp only
  rw[af (aO hu w)];dsimp only
  rw[CV ⟨M,N⟩,af (run_sizeOf he w)];rfl
 ·exact hv.elim
theorem io1 {t:TypeId} {x ix:Operand} {esz:Nat} {e:TypeId} (ho:o.op=.indexAddr t x ix) (hu:P.underlying t=some (.slice e)) (he:eI P e=some esz) (hs:aC m sl a.tmps.toList) (h:bh B m lh w)
 (hv:dK B.w0 Q1 sl lh pl At (.iaS esz (bj x) (bj ix))):dz P o a w (D5 B m lh At):=by
 have hx:=bc hs x;have hy:=bc hs ix;simp[dK]at hv;split at hv
 ·rename_i p n c k i hp hi
  rw[hp]at hx;rw[hi]at hy
  let ⟨Pw,hq,SC⟩:=gA hx
  obtain⟨M,N,p',rfl,hK⟩:=hv;obtain⟨ad,rfl,Uw⟩:=sY SC (i.toNat*esz);refine bg (s:=Instr.indexAt t (a.eval x) (a.eval ix)) (by simp only[execOp,ho]) ?_ (D5.same h (v:=.pointer (some (ad.add (i.toNat*esz)))) (by simp only[C5];exact⟨_,rfl,Uw⟩) hK);unfold Instr.indexAt;rw[fV hy,af (a:=(k,i)) (w':=w) rfl,af (aO hu w),hq];dsimp only
  rw[pure_bind];dsimp only
  rw[af (aO hu w)];dsimp only
  rw[CV ⟨M,N⟩,af (run_sizeOf he w)];rfl
 ·exact hv.elim
theorem jf2 {t:TypeId} {x ix:Operand} {n esz:Nat} {e:TypeId} {sz:Option Nat} (ho:o.op=.index t x ix) (hu:P.underlying t=some (.array n e)) (he:eI P e=some esz) (ha:rf P e=some sz)
 (hs:aC m sl a.tmps.toList) (h:bh B m lh w) (hv:dK B.w0 Q1 sl lh pl At (.ixA n esz sz (bj x) (bj ix))):dz P o a w (D5 B m lh At):=by
 have hx:=bc hs x;have hy:=bc hs ix;simp[dK]at hv;split at hv
 ·rename_i cs k i hp hi
  rw[hp]at hx;rw[hi]at hy
  let ⟨vs,hq,R3⟩:=sH hx
  let ⟨M,N,hK⟩:=hv
  have hrun:∀ {v:Value},(part e vs (i.toNat*esz)).run P w=.ok v w->(Instr.index t (a.eval x) (a.eval ix)).run P w=.ok v w:=λhr=>by
   unfold Instr.index;rw[fV hy,af (a:=(k,i)) (w':=w) rfl,af (aO hu w),hq];dsimp only
   rw[CV ⟨M,N⟩,af (run_sizeOf he w)];exact hr
  cases sz with
  |some sz=>exact bg (s:=Instr.index t (a.eval x) (a.eval ix)) (by simp only[execOp,ho]) (hrun (hfa ha vs _ w)) (D5.same h (by simp only[C5];exact⟨_,rfl,hf0 R3 _ _⟩) hK)
  |none=>
    let ⟨r,hr,hK⟩:=hK
    let ⟨v,hv,Vn⟩:=jy _ R3 hr
    exact bg (s:=Instr.index t (a.eval x) (a.eval ix)) (by simp[execOp,ho]) (hrun (hfl ha vs _ (by simpa using hv) w)) (D5.same h Vn hK)
 ·exact hv.elim
theorem yaV {t:TypeId} {x ix:Operand} (ho:o.op=.index t x ix) (hu:P.underlying t=some .string) (hs:aC m sl a.tmps.toList) (h:bh B m lh w)
 (hv:dK B.w0 Q1 sl lh pl At (.ixS (bj x) (bj ix))):dz P o a w (D5 B m lh At):=by
 have hx:=bc hs x;have hy:=bc hs ix;simp only[dK]at hv;split at hv
 ·rename_i s k i hp hi
  rw[hp]at hx;rw[hi]at hy
  let ⟨M,N,hK⟩:=hv
  refine bg (s:=Instr.index t (a.eval x) (a.eval ix)) (by simp only[execOp,ho]) ?_ (D5.same h vI hK);unfold Instr.index;rw[fV hy,af (a:=(k,i)) (w':=w) rfl,af (aO hu w),pM hx];dsimp only
  have Q7:i.toNat<s.size:=by omega
  rw[CV M];have e:s[i.toNat]? = some (s.data.toList.getD i.toNat 0):=by have hlt':i.toNat<s.data.size:=Q7;rw[show s[i.toNat]? = some s[i.toNat] from by simp[Q7]];congr 1;rw[I3,Array.getElem?_toList,Kq hlt'];rfl
  rw[e];rfl
 ·exact hv.elim
theorem jfw {x:Operand} {i:Nat} (ho:o.op=.extract x i) (hs:aC m sl a.tmps.toList) (h:bh B m lh w) (hv:dK B.w0 Q1 sl lh pl At (.ext (bj x) i)):dz P o a w (D5 B m lh At):=by
 have hx:=bc hs x;simp[dK]at hv;split at hv
 ·rename_i vs hp
  rw[hp]at hx;simp[C5]at hx
  let ⟨us,hq,TO⟩:=hx
  let ⟨r,hr,hK⟩:=hv
  let ⟨v,hv,Vn⟩:=jy _ TO hr
  refine bg (s:=Instr.extract (a.eval x) i) (by simp[execOp,ho]) ?_ (D5.same h Vn hK);have XG:us[i]? = some v:=by simpa using hv
  rw[hq];simp only[Instr.extract,XG];rfl
 ·exact hv.elim
end
end Go.Sx
namespace Go.Sx
section
variable {P:Program} {B:dP} {Q1:FuncId->ca} {m:aN} {sl:List ak} {lh:List ar} {w:World} {a:Act} {o:Oper} {pl:Option Nat} {At:ak->List ar->Prop}
theorem eF {b:Builtin} {c:Call} {s:Sem Value} {v:Value} {w':World} {Qv:Value->World->Prop} (ho:o.op=.call c) (hc:c.callee=.builtin b)
 (hb:∀cs,builtin b c.argTypes o.type cs (c.args.map a.eval)=(do pure (.value (← s)))) (hs:s.run P w=.ok v w') (hR:Qv v w'):dz P o a w Qv:=by
 refine .inl ⟨v,w',?_,hR⟩;simp only[execOp,ho];rw[af (a:={ target:=.builtin b c.argTypes o.type (c.args.map λ|.const _=>true|_=>false),args:=c.args.map a.eval }) (w':=w) (by simp only[resolve,hc];rfl)];simp only[invoke,hb];rw[af hs];rfl
theorem sdX {c:Call} {t e:TypeId} {x:Operand} (ho:o.op=.call c) (hc:c.callee=.builtin .len) (ht:c.argTypes.toList=[t]) (hx:c.args.toList=[x])
 (hu:P.underlying t=some (.slice e)) (hs:aC m sl a.tmps.toList) (h:bh B m lh w) (hv:dK B.w0 Q1 sl lh pl At (.len (bj x))):dz P o a w (D5 B m lh At):=by
 have e1:c.argTypes=#[t]:=by rw[← H3,ht]
 have e2:c.args=#[x]:=by rw[← H3,hx]
 have Tt:=bc hs x;simp[dK]at hv;split at hv
 ·rename_i p n c' hp
  rw[hp]at Tt
  let ⟨Pw,hq,_⟩:=gA Tt
  refine eF (s:=Builtin.len_ #[t] o.type #[a.eval x]) ho hc (λcs=>by rw[e1,e2];simp[builtin]) ?_ (D5.same h vI hv);unfold Builtin.len_;rw[hq];show((underlying t >>= _:Sem Value)).run P w=_;rw[af (aO hu w)];rfl
 ·exact hv.elim
theorem hr' {c:Call} {t:TypeId} {x:Operand} (ho:o.op=.call c) (hc:c.callee=.builtin .len) (ht:c.argTypes.toList=[t]) (hx:c.args.toList=[x])
 (hu:P.underlying t=some .string) (hs:aC m sl a.tmps.toList) (h:bh B m lh w) (hv:dK B.w0 Q1 sl lh pl At (.lenT (bj x))):dz P o a w (D5 B m lh At):=by
 have e1:c.argTypes=#[t]:=by rw[← H3,ht]
 have e2:c.args=#[x]:=by rw[← H3,hx]
 have Tt:=bc hs x;simp[dK]at hv;split at hv
 ·rename_i s hp;rw[hp]at Tt;refine eF (s:=Builtin.len_ #[t] o.type #[a.eval x]) ho hc (λcs=>by rw[e1,e2];simp[builtin]) ?_ (D5.same h vI hv);unfold Builtin.len_;rw[pM Tt];show((underlying t >>= _:Sem Value)).run P w=_;rw[af (aO hu w)];rfl
 ·exact hv.elim
theorem hpx {c:Call} {t e:TypeId} {x:Operand} {n:Nat} (ho:o.op=.call c) (hc:c.callee=.builtin .len) (ht:c.argTypes.toList=[t]) (hx:c.args.toList=[x])
 (hu:P.underlying t=some (.array n e)) (h:bh B m lh w) (hv:dK B.w0 Q1 sl lh pl At (.lenA n)):dz P o a w (D5 B m lh At):=by
 have e1:c.argTypes=#[t]:=by rw[← H3,ht]
 have e2:c.args=#[x]:=by rw[← H3,hx]
 simp[dK]at hv;refine eF (s:=Builtin.len_ #[t] o.type #[a.eval x]) ho hc (λcs=>by rw[e1,e2];simp[builtin]) ?_ (D5.same h vI hv);unfold Builtin.len_;show((underlying t >>= _:Sem Value)).run P w=_;rw[af (aO hu w)];rfl
theorem i21 {k:IntKind} {x y:Int} (w:World):(Builtin.max2 (.int k x) (.int k y)).run P w=.ok (.int k (max x y)) w:=by
 have:(if y > x then y else x)=max x y:=by split<;>omega
 simp only[Builtin.max2,this];rfl
theorem hsn {k:IntKind} {x y:Int} (w:World):(Builtin.min2 (.int k x) (.int k y)).run P w=.ok (.int k (min x y)) w:=by
 have:(if y<x then y else x)=min x y:=by split<;>omega
 simp only[Builtin.min2,this];rfl
theorem f16 {K':ak->Prop}:∀ (b:Bool) (ys:List ak) (vs:List Value) (x:ak) (u:Value) (w:World),aC m ys vs->C5 m x u->mm2 b x ys K' ->
 ∃r v,C5 m r v/\K' r/\(vs.foldlM (if b then Builtin.max2 else Builtin.min2) u:Sem Value).run P w=.ok v w
 |b,[],vs,x,u,w,hv,hx,hm=>by simp[aC]at hv;subst hv;exact⟨x,u,hx,by cases x<;>exact hm,rfl⟩
 |b,y::ys,vs,x,u,w,hv,hx,hm=>by
   simp[aC]at hv;obtain⟨v,vs,rfl,hy,hv⟩:=hv;unfold mm2 at hm;split at hm
   ·rename_i e;cases e
   ·rename_i k p k' Pw ys' e
    cases e
    let ⟨rfl,hm⟩:=hm
    rw[fV hx,fV hy]
    let ⟨r,z,M,N,h3⟩:=f16 b ys vs (.int k (if b then max p Pw else min p Pw)) (.int k (if b then max p Pw else min p Pw)) w hv vI hm
    refine⟨r,z,M,N,?_⟩;rw[List.foldlM_cons];cases b
    ·simp only[Ee,EC]at h3 ⊢;rw[af (hsn w)];exact h3
    ·simp only[EN]at h3 ⊢;rw[af (i21 w)];exact h3
   ·exact hm.elim
theorem f10 {c:Call} {b:Bool} {x y:Operand} {xs:List Operand} (ho:o.op=.call c) (hc:c.callee=.builtin (if b then .max else .min)) (hx:c.args.toList=x::y::xs)
 (hs:aC m sl a.tmps.toList) (h:bh B m lh w) (hv:dK B.w0 Q1 sl lh pl At (.mm b (bj x) ((y::xs).map bj))):dz P o a w (D5 B m lh At):=by
 simp only[dK]at hv
 let ⟨r,v,M,N,h3⟩:=f16 (P:=P) b _ _ _ _ w (iw hs (y::xs)) (bc hs x) hv
 have e2:(c.args.map a.eval).toList=a.eval x::(y::xs).map a.eval:=by rw[HF,hx];rfl
 cases b
 ·refine eF (s:=Builtin.min_ c.argTypes o.type (c.args.map a.eval)) ho hc (λcs=>rfl) ?_ (D5.same h M N);unfold Builtin.min_;rw[e2];exact h3
 ·refine eF (s:=Builtin.max_ c.argTypes o.type (c.args.map a.eval)) ho hc (λcs=>rfl) ?_ (D5.same h M N);unfold Builtin.max_;rw[e2];exact h3
theorem CU {x:Option ak} {u:Option Value} {y d:Nat} {K':Nat->Prop} (w:World) (hx:match x,u with|none,none=>True|some x,some u=>C5 m x u|_,_=>False) (h:bnd x y d K') :
 ∃n,K' n/\(u=none->n=d)/\∀v code,u=some v->(Instr.sliceBound v y code).run P w=.ok n w:=by
 cases x with
 |none=>
   cases u with
   |none=>exact⟨d,h,λ_=>rfl,λv _ hv=>by cases hv⟩|some u=>exact hx.elim
 |some x=>
   cases u with
   |none=>exact hx.elim
   |some u=>
     simp[bnd]at h;split at h
     ·rename_i e;cases e
     ·rename_i k i e
      cases e
      let ⟨M,N,h3⟩:=h
      refine⟨i.toNat,h3,λe=>(by cases e),λv code hv=>?_⟩;cases hv;rw[fV hx];unfold Instr.sliceBound;rw[af (a:=(k,i)) (w':=w) rfl];dsimp only
      rw[CV ⟨M,N⟩];rfl
     ·exact h.elim
theorem BV (hs:aC m sl a.tmps.toList) (x:Option Operand):match (x.map bj).map (arg sl),x.map a.eval with|none,none=>True|some x,some u=>C5 m x u|_,_=>False:=by
 cases x with
 |none=>trivial|some x=>exact bc hs x
theorem rM {b:Bool} {n c:Nat} {lo hi mx:Option Operand} {K':Nat->Nat->Nat->Prop} (Vk:¬ (mx.isSome=true/\hi.isSome=false)) (hs:aC m sl a.tmps.toList) (w:World)
 (h:bnd ((mx.map bj).map (arg sl)) c c λmm=>bnd ((hi.map bj).map (arg sl)) mm n λhh=>bnd ((lo.map bj).map (arg sl)) hh 0 λl=>K' l hh mm) :
 ∃l hh mm,K' l hh mm/\(Instr.sliceBounds b n c (lo.map a.eval) (hi.map a.eval) (mx.map a.eval)).run P w=.ok (l,hh,mm) w:=by
 let ⟨mm,h,m1,m2⟩:=CU (P:=P) w (BV hs mx) h
 let ⟨hh,h,M,N⟩:=CU (P:=P) w (BV hs hi) h
 let ⟨l,h,l1,l2⟩:=CU (P:=P) w (BV hs lo) h
 refine⟨l,hh,mm,h,?_⟩;unfold Instr.sliceBounds;cases mx with
 |none=>
   obtain rfl:=m1 rfl;cases hi with
   |none=>
     obtain rfl:=M rfl;cases lo with
     |none=>obtain rfl:=l1 rfl;simp only[JV,pure_bind];rfl|some x=>simp only[JV,E2,pure_bind];rw[af (l2 _ _ rfl)];rfl
   |some y=>
     cases lo with
     |none=>obtain rfl:=l1 rfl;simp only[JV,E2,pure_bind];rw[af (N _ _ rfl)];rfl|some x=>simp only[JV,E2,pure_bind];rw[af (N _ _ rfl),af (l2 _ _ rfl)];rfl
 |some z=>
   cases hi with
   |none=>exact(Vk ⟨rfl,rfl⟩).elim
   |some y=>
     cases lo with
     |none=>obtain rfl:=l1 rfl;simp only[JV,E2,pure_bind];rw[af (m2 _ _ rfl),af (N _ _ rfl)];rfl|some x=>simp only[E2];rw[af (m2 _ _ rfl),af (N _ _ rfl),af (l2 _ _ rfl)];rfl
theorem hey {p:Option jh} {Pw:Option Addr} (h:eg m p Pw) (c:Prop) [Decidable c] (n:Nat):eg m (if c then p else p.map (jh.add · n)) (if c then Pw else Pw.map (·.add n)):=by
 split
 ·exact h
 ·cases p with|none=>simp[eg]at h;subst h;rfl|some p=>obtain⟨ad,rfl,N⟩:=sY h n;exact N
theorem iz0 {t e:TypeId} {x:Operand} {lo hi mx:Option Operand} {esz:Nat} (ho:o.op=.slice t x lo hi mx) (Vk:¬ (mx.isSome=true/\hi.isSome=false)) (hu:P.underlying t=some (.slice e)) (he:eI P e=some esz)
 (hs:aC m sl a.tmps.toList) (h:bh B m lh w) (hv:dK B.w0 Q1 sl lh pl At (.slS esz (bj x) (lo.map bj) (hi.map bj) (mx.map bj))):dz P o a w (D5 B m lh At):=by
 have hx:=bc hs x;simp only[dK]at hv;split at hv
 ·rename_i p n c hp
  rw[hp]at hx
  let ⟨Pw,hq,SC⟩:=gA hx
  let ⟨l,hh,mm,hK,hrun⟩:=rM (P:=P) (b:=true) Vk hs w hv
  refine bg (s:=Instr.sliceAt t (a.eval x) (lo.map a.eval) (hi.map a.eval) (mx.map a.eval)) (v:=.slice (if mm=l then Pw else Pw.map (·.add (l*esz))) (hh-l) (mm-l)) (by simp[execOp,ho]) ?_ (D5.same h ?_ hK)
  ·unfold Instr.sliceAt
   rw[af (aO hu w)];dsimp only
   unfold Instr.slice;rw[af (aO hu w),hq];dsimp only
   rw[af hrun];dsimp only
   rw[af (run_sizeOf he w)];rfl
  ·simp only[C5];exact⟨_,rfl,hey SC _ _⟩
 ·exact hv.elim
theorem nb1 {t e:TypeId} {x:Operand} {lo hi mx:Option Operand} {n esz:Nat} (ho:o.op=.slice t x lo hi mx) (Vk:¬ (mx.isSome=true/\hi.isSome=false)) (hu:P.underlying t=some (.array n e)) (he:eI P e=some esz)
 (hs:aC m sl a.tmps.toList) (h:bh B m lh w) (hv:dK B.w0 Q1 sl lh pl At (.slA n esz (bj x) (lo.map bj) (hi.map bj) (mx.map bj))):dz P o a w (D5 B m lh At):=by
 have hx:=bc hs x;simp only[dK]at hv;split at hv
 ·rename_i p hp
  rw[hp]at hx
  let ⟨Pw,hq,SC⟩:=jZ hx
  let ⟨l,hh,mm,hK,hrun⟩:=rM (P:=P) (b:=false) Vk hs w hv
  obtain⟨ad,rfl,Uw⟩:=Ac SC;refine bg (s:=Instr.sliceAt t (a.eval x) (lo.map a.eval) (hi.map a.eval) (mx.map a.eval)) (v:=.slice (some (if mm=l then ad else ad.add (l*esz))) (hh-l) (mm-l)) (by simp[execOp,ho]) ?_ (D5.same h ?_ hK)
  ·unfold Instr.sliceAt
   rw[af (aO hu w)];dsimp only
   rw[hq,af (a:=ad) (w':=w) rfl,af hrun];dsimp only
   rw[af (run_sizeOf he w)];rfl
  ·simp only[C5]
   refine⟨_,rfl,?_⟩;have:=hey Uw (mm=l) (l*esz);by_cases e:mm=l
   ·simpa[e] using this
   ·simpa[e] using this
 ·exact hv.elim
theorem nn4 {t:TypeId} {x:Operand} {lo hi:Option Operand} (ho:o.op=.slice t x lo hi none) (hu:P.underlying t=some .string)
 (hs:aC m sl a.tmps.toList) (h:bh B m lh w) (hv:dK B.w0 Q1 sl lh pl At (.slT (bj x) (lo.map bj) (hi.map bj))):dz P o a w (D5 B m lh At):=by
 have hx:=bc hs x;simp only[dK]at hv;split at hv
 ·rename_i s hp
  rw[hp]at hx
  let ⟨l,hh,mm,hK,hrun⟩:=rM (P:=P) (b:=false) (n:=s.size) (c:=s.size) (mx:=none) (K':=λl h _=>At (.str (s.extract l h)) lh) au hs w hv
  refine bg (s:=Instr.sliceAt t (a.eval x) (lo.map a.eval) (hi.map a.eval) none) (v:=.string (s.extract l hh)) (by simp only[execOp,ho];rfl) ?_ (D5.same h hi1 hK);unfold Instr.sliceAt;rw[af (aO hu w)];dsimp only
  unfold Instr.slice;rw[af (aO hu w),pM hx];simp only[Option.isSome_none,Ee,EC];rw[JV]at hrun;rw[af hrun];rfl
 ·exact hv.elim
end
end Go.Sx
namespace Go.Sx
section
variable {P:Program} {B:dP} {Q1:FuncId->ca} {m:aN} {sl:List ak} {lh:List ar} {w:World} {a:Act} {o:Oper} {pl:Option Nat} {At:ak->List ar->Prop}
theorem hiy (z:List Value):∀ n,(List.range (n*z.length)).map (λi=>z[i % z.length]!)=(List.replicate n z).flatten
 |0=>by simp
 |n+1=>by
   rw[IW,K5,← hiy z n,E5,Ja,List.range_add,List.map_append];congr 1
   ·apply List.ext_getElem
    ·simp
    ·intro i M N;simp at M;simp[K8 M,M]
   ·rw[List.map_map];apply JF;intro i _;simp
theorem hel (z:Array Value) (n:Nat):(Builtin.zeroCells z n).toList=(List.replicate n z.toList).flatten:=by
 unfold Builtin.zeroCells;rw[HF];have:(Array.range (n*z.size)).toList=List.range (n*z.size):=by simp
 rw[this,← hiy,JH];apply JF;intro x _;rw[Array.getElem!_eq_getD,List.getElem!_eq_getElem?_getD,Array.getElem?_toList,OP]
theorem fE {z:List ak} {vs:List Value} (h:aC m z vs):∀ n,aC m (List.replicate n z).flatten (List.replicate n vs).flatten
 |0=>by simp[aC]
 |n+1=>by simp[IW,K5];exact eo h (fE h n)
theorem m9 (h:bh B m lh w) {p:Option jh} {Pw:Option Addr} (hq:eg m p Pw) {size n k c:Nat} {xs:List ak} (hx:cellsOf B.w0 lh p (n*size)=some xs) :
 ∃vs,(Builtin.firstCells size n (.slice Pw k c)).run P w=.ok vs w/\aC m xs vs.toList:=by
 cases p with
 |none=>simp[eg]at hq;subst hq;simp[cellsOf,DJ]at hx;subst hx;exact⟨#[],rfl,by simp[aC]⟩
 |some p=>obtain⟨ad,vs,rfl,hrun,hr⟩:=uz (P:=P) h hq hx;exact⟨vs,hrun,hr⟩
theorem mP {t u e e' ty:TypeId} {n c k c2 sz:Nat} {ps qs:Option Addr} {nv:Array Value} {w':World} (hu:P.underlying t=some (.slice e)) (UY:P.underlying u=some (.slice e')) (RI:eI P e=some sz)
 (hcap:n+k<=c) (hn:(Builtin.firstCells sz k (.slice qs k c2)).run P w=.ok nv w)
 (R0:(match ps with|some ad=>storeCells (ad.add (n*sz)) nv.toList|none=>pure ()).run P w=.ok () w') :
 (Builtin.append_ #[t,u] ty #[.slice ps n c,.slice qs k c2]).run P w=.ok (.slice ps (n+k) c) w':=by
 simp only[Builtin.append_,K1,Ew,Eu];rw[af (aO hu w)];dsimp only
 rw[af (run_sizeOf RI w),af (aO UY w),pure_bind];simp only[Ee,EC,Builtin.lenOf,pure_bind,HK,EN];rw[CV hcap,af hn];cases ps with
 |none=>have hst':Result.ok () w=Result.ok () w':=R0;cases hst';rfl
 |some ad=>simp only at R0 ⊢;rw[af R0];rfl
theorem fzb4 {t u e e' ty:TypeId} {n c k c2:Nat} {ps qs:Option Addr} {ov nv:Array Value} {i:TypeInfo} {z:Value} (hu:P.underlying t=some (.slice e)) (UY:P.underlying u=some (.slice e')) (hi:P.info? e=some i)
 (hz:i.zero=some z) (hcap:¬n+k<=c) (hbytes:Builtin.nextslicecap (n+k) c*i.bytes<=2 ^ 48) (hbig:((n+k:Nat):Int)<=IntKind.i64.max∨i.bytes≠0)
 (iza1:(Builtin.firstCells i.size n (.slice ps n c)).run P { w with drawn:=w.drawn+1 }=.ok ov { w with drawn:=w.drawn+1 })
 (hn:(Builtin.firstCells i.size k (.slice qs k c2)).run P { w with drawn:=w.drawn+1 }=.ok nv { w with drawn:=w.drawn+1 }) :
 ∃ nc,n+k<=nc/\(Builtin.append_ #[t,u] ty #[.slice ps n c,.slice qs k c2]).run P w =
  .ok (.slice (some ⟨w.heap.size,0,none⟩) (n+k) nc) { w with drawn:=w.drawn+1,heap:=w.heap.push (.cells (ov++nv++Builtin.zeroCells z.cells (nc-(n+k))) e (0,0)) }:=by
 have RI:eI P e=some i.size:=by simp[eI,hi]
 refine⟨(Question.appendCap (n+k) c e).cut (w.tape w.drawn (.appendCap (n+k) c e)),by simp only[Question.cut];omega,?_⟩;generalize U2:(Question.appendCap (n+k) c e).cut (w.tape w.drawn (.appendCap (n+k) c e))=nc;have SZ:(choose (.appendCap (n+k) c e)).run P w=.ok nc { w with drawn:=w.drawn+1 }:=by rw[← U2];rfl
 have hask:(askRoom (nc*i.bytes)).run P { w with drawn:=w.drawn+1 }=.ok () { w with drawn:=w.drawn+1 }:=by unfold askRoom;split<;>rfl
 have YX:(zeroValue e).run P { w with drawn:=w.drawn+1 }=.ok z { w with drawn:=w.drawn+1 }:=by unfold zeroValue;rw[af (ep hi _)];simp only[hz];rfl
 simp only[Builtin.append_,K1,Ew,Eu];rw[af (aO hu w)];dsimp only
 rw[af (run_sizeOf RI w),af (aO UY w),pure_bind];simp only[Ee,EC,Builtin.lenOf,pure_bind,HK,EN,false_or];rw[C4 hcap,af (ep hi w),C4 (by rintro⟨M,N⟩;rcases hbig with h|h<;>omega),af (ep hi w),C4 K];rw[af SZ,af (ep hi _),af hask,af iza1,af hn,af YX,af (lB _)];rfl
theorem iy2 {c:Call} {t u e e':TypeId} {s x:Operand} {i:TypeInfo} {z:Value} (ho:o.op=.call c) (hc:c.callee=.builtin .append) (ht:c.argTypes.toList=[t,u]) (hx:c.args.toList=[s,x])
 (hu:P.underlying t=some (.slice e)) (UY:P.underlying u=some (.slice e')) (hi:P.info? e=some i) (hz:i.zero=some z) (hs:aC m sl a.tmps.toList) (h:bh B m lh w)
 (hv:dK B.w0 Q1 sl lh pl At (.app e i.size i.bytes (z.cells.toList.map bU) (bj s) (bj x))):dz P o a w (D5 B m lh At):=by
 have e1:c.argTypes=#[t,u]:=by rw[← H3,ht]
 have e2:c.args=#[s,x]:=by rw[← H3,hx]
 have RI:eI P e=some i.size:=by simp[eI,hi]
 have TA:=bc hs s;have Tt:=bc hs x;simp[dK]at hv;generalize arg sl (bj s)=az at hv TA;generalize arg sl (bj x)=ax at hv Tt;unfold ua at hv;split at hv
 ·rename_i p n c' Pw k c''
  let ⟨ps,XE,XD⟩:=gA TA
  let ⟨qs,izb6,hqq⟩:=gA Tt
  let ⟨new,hnew,Ru,hgrow⟩:=hv
  have hpre:∀ {v:Value} {w':World},(Builtin.append_ #[t,u] o.type #[.slice ps n c',.slice qs k c'']).run P w=.ok v w'->D5 B m lh At v w'->dz P o a w (D5 B m lh At):=λhR hP=>
   eF (s:=Builtin.append_ #[t,u] o.type #[a.eval s,a.eval x]) ho hc (λcs=>by rw[e1,e2];simp[builtin]) (by rw[XE,izb6];exact hR) hP
  by_cases hcap:n+k<=c'
  ·replace Ru:=Ru hcap
   let ⟨nv,hnrun,XC⟩:=m9 (P:=P) (k:=k) (c:=c'') h hqq hnew
   split at Ru
   ·rename_i b off
    let ⟨cs,ty,hk,hone,R8,hK⟩:=Ru
    obtain⟨b',hb,rfl⟩:=XD;have hones:∀ y∈nv.toList,nG y=true:=by
     have:C5 m (.agg new) (.agg nv):=by simp only[C5];exact⟨_,rfl,XC⟩
     exact(og this (by simpa[ak.flat] using hone)).2
    let ⟨w',hrun,hrel⟩:=bh.stores (P:=P) (off:=off+n*i.size) hb new nv.toList cs lh w 0 h hk K XC hones
    refine hpre (mP (w':=w') hu UY RI hcap hnrun ?_) (D5.store hk hrel ?_ hK)
    ·simp only;rw[nC];exact hrun
    ·simp only[C5];exact⟨_,rfl,_,hb,rfl⟩
   ·simp[eg]at XD;subst XD;exact hpre (mP (w':=w) hu UY RI hcap hnrun rfl) (D5.same h (by simp only[C5];exact⟨_,rfl,rfl⟩) Ru)
   ·rename_i ad;obtain⟨rfl,hK⟩:=Ru;simp[aC]at XC;simp[eg]at XD;subst XD;refine hpre (mP (w':=w) hu UY RI hcap hnrun ?_) (D5.same h (by simp only[C5];exact⟨_,rfl,rfl⟩) hK);simp only;rw[XC];unfold storeCells;rfl
  ·let ⟨old,hold,hbytes,hbig,hK⟩:=hgrow K
   have pA:=h.drew (w.drawn+1)
   let ⟨nv,hnrun,XC⟩:=m9 (P:=P) (k:=k) (c:=c'') pA hqq hnew
   let ⟨ov,horun,iza0⟩:=m9 (P:=P) (k:=n) (c:=c') pA XD hold
   let ⟨nc,U2,hrun⟩:=fzb4 (P:=P) (ty:=o.type) hu UY hi hz hcap hbytes hbig horun hnrun
   have Sd:=hK nc U2;have hall:aC m (old++new++(List.replicate (nc-(n+k)) (z.cells.toList.map bU)).flatten) (ov++nv++Builtin.zeroCells z.cells (nc-(n+k))).toList:=by rw[LA,LA,hel];exact eo (eo iza0 XC) (fE (cv m z.cells.toList) _)
   let ⟨p',m',lh',g1,g2,g3,g4⟩:=iD pA hall Sd
   exact hpre hrun ⟨_,m',lh',by simp only[C5];exact⟨_,rfl,_,g1,rfl⟩,g2,g3,g4⟩
 ·exact hv.elim
theorem if10 {z:List Value} (h:z.all nG=true) (n:Nat):∀ u∈(List.replicate n z).flatten,nG u=true:=λu hu=>by
 let ⟨l,hl,hu⟩:=List.mem_flatten.1 hu
 rw[(List.mem_replicate.1 hl).2]at hu;exact List.all_eq_true.1 h u hu
theorem ptL {c:Call} {t e:TypeId} {x:Operand} {i:TypeInfo} {z:Value} (ho:o.op=.call c) (hc:c.callee=.builtin .clear) (ht:c.argTypes.toList=[t]) (hx:c.args.toList=[x])
 (hu:P.underlying t=some (.slice e)) (hi:P.info? e=some i) (hz:i.zero=some z) (M:z.cells.size=i.size) (N:z.cells.toList.all nG=true) (hs:aC m sl a.tmps.toList) (h:bh B m lh w)
 (hv:dK B.w0 Q1 sl lh pl At (.clr i.size (z.cells.toList.map bU) (bj x))):dz P o a w (D5 B m lh At):=by
 have e1:c.argTypes=#[t]:=by rw[← H3,ht]
 have e2:c.args=#[x]:=by rw[← H3,hx]
 have Tt:=bc hs x;simp[dK]at hv;split at hv
 ·rename_i k off n c' hp
  rw[hp]at Tt
  let ⟨Pw,hq,SC⟩:=gA Tt
  obtain⟨b,hb,rfl⟩:=SC
  let ⟨cs,ty,hk,hn,R8,hK⟩:=hv
  have hrel:=fE (m:=m) (cv m z.cells.toList) n;have hl:=c7 hrel
  let ⟨w',hrun,hrel'⟩:=bh.stores (P:=P) (off:=off) hb (List.replicate n (z.cells.toList.map bU)).flatten (List.replicate n z.cells.toList).flatten cs lh w 0 h hk (by rw[GE,← hl];simp;rw[M];omega) hrel (if10 N n)
  refine eF (s:=Builtin.clear_ #[t] o.type #[a.eval x]) (w':=w') ho hc (λcs=>by rw[e1,e2];simp[builtin]) ?_ (D5.store (r:=.tup []) (v:=.tuple #[]) hk hrel' (by simp[C5,aC]) hK);unfold Builtin.clear_;rw[hq];have YX:(zeroValue e).run P w=.ok z w:=by unfold zeroValue;rw[af (ep hi _)];simp only[hz];rfl
  obtain⟨n,rfl⟩:∃n',n=n'+1:=⟨n-1,K⟩;simp only[K1,Ew];rw[af (aO hu w)];show(do let iza22 ← zeroValue e;storeCells ⟨b,off,none⟩ (Builtin.zeroCells iza22.cells (n+1)).toList;pure (Value.tuple #[]):Sem Value).run P w=_;rw[af YX,hel,af hrun];rfl
 ·rename_i p n c' izb22 hp
  rw[hp]at Tt
  let ⟨Pw,hq,SC⟩:=gA Tt
  obtain⟨rfl,hK⟩:=hv;refine eF (s:=Builtin.clear_ #[t] o.type #[a.eval x]) ho hc (λcs=>by rw[e1,e2];simp[builtin]) ?_ (D5.same h (by simp[C5,aC]:C5 m (.tup []) (.tuple #[])) hK);unfold Builtin.clear_;rw[hq];simp only[K1,Ew];rw[af (aO hu w)];cases Pw<;>rfl
 ·exact hv.elim
theorem hx0 {c : Call} {f : FuncId} {fn : Func} (hS : ∀ f, (Q1 f).Sound P f) (ho : o.op = .call c) (hc : c.callee = .value (.func f)) (hf : P.funcs[f]? = some fn) (hn : (fn.name == "runtime.NumGoroutine") = false) (hb : fn.body.isNone = false)
 (hs:aC m sl a.tmps.toList) (h:bh B m lh w) (hv:dK B.w0 Q1 sl lh pl At (.call f (c.args.toList.map bj))):dz P o a w (D5 B m lh At):=by
 simp only[dK]at hv
 let ⟨_,hcall⟩:=hS f B m lh w _ _ At h (iw hs c.args.toList) hv
 refine .inr (.inr ⟨f,((c.args.toList.map a.eval)).toArray,?_,hcall.mono λe w' ⟨v,r,m',lh',M,N,h3,h4,h5⟩=>⟨v,M,r,m',lh',N,h3,h4,h5⟩⟩)
 simp only[execOp,ho]
 rw[af (a:={ target:=.fn (.func f) #[],args:=#[]++c.args.map a.eval }) (w':=w) (by simp only[resolve,hc,Act.eval];rfl)]
 simp only[invoke,callFunc]
 rw[af (a:=P) (w':=w) rfl,hf]
 simp only[hn,hb,Ee,EC]
 have:#[]++c.args.map a.eval++#[]=(c.args.toList.map a.eval).toArray:=by
  apply Array.toList_inj.1;simp
 rw[this];rfl
theorem hok {c:Call} {x:Operand} (hS:∀ f,(Q1 f).Sound P f) (ho:o.op=.call c) (hc:c.callee=.value x)
 (hs:aC m sl a.tmps.toList) (h:bh B m lh w) (hv:dK B.w0 Q1 sl lh pl At (.callv (bj x) (c.args.toList.map bj))):dz P o a w (D5 B m lh At):=by
 have hx:=bc hs x;simp only[dK]at hv;split at hv
 ·rename_i f xs ys hp
  rw[hp]at hx;simp only[C5]at hx
  let ⟨us,vs,hq,M,N⟩:=hx
  let ⟨⟨fn,hf,hn,hb⟩,hcall⟩:=hS f B m lh w _ _ At h (eo (eo M (iw hs c.args.toList)) N) hv
  refine .inr (.inr ⟨f,_,?_,hcall.mono λe w' ⟨v,r,m',lh',M,N,h3,h4,h5⟩=>⟨v,M,r,m',lh',N,h3,h4,h5⟩⟩);simp only[execOp,ho];rw[af (a:={ target:=.fn (.func f) vs,args:=us++c.args.map a.eval }) (w':=w) (by simp only[resolve,hc,hq];rfl)];simp only[invoke,callFunc];rw[af (a:=P) (w':=w) rfl,hf];simp only[hn,hb,Ee,EC];have:us++c.args.map a.eval++vs=(us.toList++c.args.toList.map a.eval++vs.toList).toArray:=by apply Array.toList_inj.1;simp
  rw[this];rfl
 ·exact hv.elim
theorem ic7 {t e:TypeId} {k k':IntKind} {n:Int} {i:TypeInfo} {z:Value} (ho:o.op=.makeSlice t (.const (.int k n)) (.const (.int k' n))) (hu:P.underlying t=some (.slice e)) (hi:P.info? e=some i) (hz:i.zero=some z)
 (hn:0<n) (VE:n<=1000) (hb:(i.bytes:Int)*n<=2 ^ 40) (h0:i.size≠0) (h:bh B m lh w)
 (hv:dK B.w0 Q1 sl lh pl At (.mks e n.toNat (((List.range (n.toNat*i.size)).map (z.cells[· % z.cells.size]!)).map bU))):dz P o a w (D5 B m lh At):=by
 have RI:eI P e=some i.size:=by simp[eI,hi]
 simp only[dK]at hv
 let ⟨p,m',lh',g1,g2,g3,g4⟩:=iD h (vs:=((List.range (n.toNat*i.size)).map (z.cells[· % z.cells.size]!)).toArray) (by simpa using cv m ((List.range (n.toNat*i.size)).map (z.cells[· % z.cells.size]!))) hv
 refine bg (s:=Instr.makeSlice t (.int k n) (.int k' n)) (v:=.slice (some ⟨w.heap.size,0,none⟩) n.toNat n.toNat) (by simp only[execOp,ho];rfl) ?_ ⟨_,m',lh',by simp only[C5];exact⟨_,rfl,_,g1,rfl⟩,g2,g3,g4⟩;have hw:IntKind.i64.wrap n=n:=by have M:n % (2 ^ 64:Int)=n:=Int.emod_eq_of_lt K K;simp only[IntKind.wrap,IntKind.bits,IntKind.signed,M];rw[C4 (by simp;omega)]
 have YX:(zeroValue e).run P w=.ok z w:=by unfold zeroValue;rw[af (ep hi _)];simp only[hz];rfl
 have hask:(askRoom (n.toNat*i.bytes)).run P w=.ok () w:=by unfold askRoom;split<;>rfl
 unfold Instr.makeSlice;rw[af (aO hu w)];dsimp only
 rw[af (a:=n) (w':=w) rfl,af (a:=n) (w':=w) rfl,af (ep hi w)];simp only[hw];rw[C4 (by simp;omega),af hask,af (run_sizeOf RI w)];have Rw:n.toNat*i.size≠0:=Nat.mul_ne_zero K h0;rw[C4 Rw,af YX,pure_bind,af (lB w)];have e:Array.map (λx=>z.cells[x % z.cells.size]!) (Array.range (n.toNat*i.size))=(List.map (λx=>z.cells[x % z.cells.size]!) (List.range (n.toNat*i.size))).toArray:=by apply Array.toList_inj.1;simp
 rw[e];rfl
theorem qo {Bs:List TypeId} {i:l7} (hS:∀ f,(Q1 f).Sound P f) (hE:∀ t∈Bs,dM P t) (hc:jw P Bs o=some i) (hs:aC m sl a.tmps.toList) (h:bh B m lh w) (hv:dK B.w0 Q1 sl lh pl At i) :
 dz P o a w (D5 B m lh At):=by
 have SO:=hc;cases ho:o.op<;>simp only[jw,ho]at hc<;>try (cases hc;done)
 case move x=>cases hc;exact aeG (.inl ho) hs h hv
 case assign x=>cases hc;exact aeG (.inr ho) hs h hv
 case pick c x y=>cases hc;exact hpq ho hs h hv
 case alloc t=>simp only[DZ]at hc;obtain⟨z,hz,rfl⟩:=hc;exact if6 ho hz h hv
 case box t x=>cases hc;exact iw2 ho hs h hv
 case build t ps=>exact hpa ho SO hs h hv
 case buildSlice t n ps=>exact ig3 ho SO hs h hv
 case load t x=>exact agf ho SO hs h hv
 case store t x y=>simp[DZ]at hc;obtain⟨n,hn,rfl⟩:=hc;exact aji ho hn hs h hv
 case nilCheck x=>cases hc;exact ah9 ho hs h hv
 case binOp op t x y u=>
  split at hc
  ·rename_i hu;cases hc;exact am1 (neg:=false) rfl ho hu hs h hv
  ·rename_i hu;cases hc;exact am1 (neg:=true) rfl ho hu hs h hv
  ·split at hc
   ·rename_i hm;simp[DZ]at hc;obtain⟨n,hn,rfl⟩:=hc;exact wK (neg:=false) hn rfl ho (hE t (by simpa using hm)) hs h hv
   ·cases hc
  ·split at hc
   ·rename_i hm;simp[DZ]at hc;obtain⟨n,hn,rfl⟩:=hc;exact wK (neg:=false) hn rfl ho (hE t (by simpa using hm)) hs h hv
   ·cases hc
  ·split at hc
   ·rename_i hm;simp[DZ]at hc;obtain⟨n,hn,rfl⟩:=hc;exact wK (neg:=true) hn rfl ho (hE t (by simpa using hm)) hs h hv
   ·cases hc
  ·split at hc
   ·rename_i hm;simp[DZ]at hc;obtain⟨n,hn,rfl⟩:=hc;exact wK (neg:=true) hn rfl ho (hE t (by simpa using hm)) hs h hv
   ·cases hc
  ·cases hc;exact awJ ho hs h hv
  ·cases hc;exact awJ ho hs h hv
  ·rename_i hu
   split at hc
   ·rename_i hy;cases hc;exact auy (neg:=false) rfl ho hu hy hs h hv
   ·cases hc
  ·rename_i hu
   split at hc
   ·rename_i hy;cases hc;exact auy (neg:=true) rfl ho hu hy hs h hv
   ·cases hc
  ·cases hc
 case unOp op t x=>cases hc;exact alM ho hs h hv
 case convert s d x=>
  split at hc
  ·rename_i ds k M N;cases hc;exact hvx ho M N hs h hv
  ·cases hc
 case makeFunc f xs ys=>cases hc;exact szB ho hs h hv
 case fieldAddr t x j=>
  split at hc
  ·rename_i fs hu
   split at hc
   ·rename_i f hf
    split at hc
    ·rename_i n hn
     split at hc
     ·cases hc
     ·rename_i U1;cases hc;exact afY ho hu hf hn U1 hs h hv
    ·cases hc
   ·cases hc
  ·cases hc
 case field t x j=>
  split at hc
  ·rename_i fs hu
   split at hc
   ·rename_i f hf;simp[DZ]at hc;obtain⟨n,hn,rfl⟩:=hc;exact sho ho hu hf hn hs h hv
   ·cases hc
  ·cases hc
 case indexAddr t x ix=>
  split at hc
  ·rename_i n e hu;simp[DZ]at hc;obtain⟨n,hn,rfl⟩:=hc;exact nc2 ho hu hn hs h hv
  ·rename_i e hu;simp[DZ]at hc;obtain⟨n,hn,rfl⟩:=hc;exact io1 ho hu hn hs h hv
  ·cases hc
 case index t x ix=>
  split at hc
  ·rename_i n e hu
   split at hc
   ·rename_i s ag M N;cases hc;exact jf2 ho hu M N hs h hv
   ·cases hc
  ·rename_i hu;cases hc;exact yaV ho hu hs h hv
  ·cases hc
 case extract x j=>cases hc;exact jfw ho hs h hv
 case makeInterface=>cases hc;simp[dK,Kp,arg]at hv
 case panic=>cases hc;simp[dK,Kp,arg]at hv
 case slice t x lo hi mx=>
  split at hc
  ·cases hc
  ·rename_i Vk
   have hmx':¬(mx.isSome=true/\hi.isSome=false):=by simpa using Vk
   split at hc
   ·rename_i e hu;simp[DZ]at hc;obtain⟨n,hn,rfl⟩:=hc;exact iz0 ho hmx' hu hn hs h hv
   ·rename_i n e hu;simp[DZ]at hc;obtain⟨n,hn,rfl⟩:=hc;exact nb1 ho hmx' hu hn hs h hv
   ·rename_i hu
    split at hc
    ·cases hc
    ·rename_i hm
     cases mx with
     |none=>cases hc;exact nn4 ho hu hs h hv|some x=>simp at hm
   ·cases hc
 case makeSlice t x y=>
  unfold avr at hc;split at hc
  ·rename_i k n k' n' e hu
   split at hc
   ·rename_i i hi
    split at hc
    ·rename_i z hz
     split at hc
     ·rename_i hcond;simp[D2,E0,bne_iff_ne]at hcond;obtain⟨⟨⟨⟨rfl,M⟩,N⟩,h3⟩,h4⟩:=hcond;cases hc;exact ic7 ho hu hi hz M N h3 h4 h hv
     ·cases hc
    ·cases hc
   ·cases hc
  ·cases hc
 case call c=>
  split at hc
  ·rename_i f hcal
   split at hc
   ·rename_i fn hf
    split at hc
    ·cases hc
    ·rename_i hcond;simp only[Gy,not_or,Bool.not_eq_true]at hcond;cases hc;exact hx0 hS ho hcal hf hcond.1 hcond.2 hs h hv
   ·cases hc
  ·rename_i x hcal;cases hc;exact hok hS ho hcal hs h hv
  ·rename_i b hcal
   unfold hi3 at hc;split at hc
   ·rename_i t x ht hx
    split at hc
    ·rename_i e hu;cases hc;exact sdX ho hcal ht hx hu hs h hv
    ·rename_i hu;cases hc;exact hr' ho hcal ht hx hu hs h hv
    ·rename_i n e hu;cases hc;exact hpx ho hcal ht hx hu h hv
    ·cases hc
   ·rename_i x y xs hx;cases hc;exact f10 (b:=true) ho hcal hx hs h hv
   ·rename_i x y xs hx;cases hc;exact f10 (b:=false) ho hcal hx hs h hv
   ·rename_i t u s x ht hx
    split at hc
    ·rename_i e e' hu UY
     split at hc
     ·rename_i i hi
      split at hc
      ·rename_i z hz
       split at hc
       ·cases hc;exact iy2 ho hcal ht hx hu UY hi hz hs h hv
       ·cases hc
      ·cases hc
     ·cases hc
    ·cases hc
   ·rename_i t x ht hx
    split at hc
    ·rename_i e hu
     split at hc
     ·rename_i i hi
      split at hc
      ·rename_i z hz
       split at hc
       ·rename_i hcond;simp only[D2,E0]at hcond;cases hc;exact ptL ho hcal ht hx hu hi hz hcond.1 hcond.2 hs h hv
       ·cases hc
      ·cases hc
     ·cases hc
    ·cases hc
   ·cases hc
  ·cases hc
end
end Go.Sx
namespace Go.Sx
structure ji where
 dst:Option Nat
 op:l7
 guard:Option (Nat×Bool)
inductive Ex where|normal|exit (id:Nat)|ret
def fk (sl:List ak) (d:Option Nat) (v:ak):List ak :=
 match d with
 |some d=>sl.set d v|none=>sl
def fF (w0:World) (Q1:FuncId->ca):List ji->List ak->List ar->(List ak->List ar->Prop)->Prop
 |[],sl,lh,At=>At sl lh
 |o::rest,sl,lh,At=>
   match o.guard with
   |none=>dK w0 Q1 sl lh none (λv lh'=>fF w0 Q1 rest (fk sl o.dst v) lh' At) o.op
   |some (d,want)=>
     match sl.getD d .any with
     | .bool b=>(b=want->dK w0 Q1 (sl.set d (.bool want)) lh none (λv lh'=>fF w0 Q1 rest (fk (sl.set d (.bool want)) o.dst v) lh' At) o.op) /\
        (b=!want->fF w0 Q1 rest (fk (sl.set d (.bool (!want))) o.dst (.tup [])) lh At)
     |.tup vs=>fF w0 Q1 rest (fk (sl.set d (.tup vs)) o.dst (.tup [])) lh At|.int ..=>fF w0 Q1 rest (fk sl o.dst (.tup [])) lh At|_=>False
def lU (P:Program) (Bs:List TypeId) (ops:Array Oper) (o:Oper):Option ji :=
 match jw P Bs o,o.guard with
 |some i,none=>some ⟨o.dst,i,none⟩
 |some i,some (j,want)=>match (ops[j]?).bind (·.dst) with|some d=>some ⟨o.dst,i,some (d,want)⟩|none=>none
 |none,_=>none
def fP (P:Program) (Bs:List TypeId) (ops:Array Oper):List Oper->Option (List ji)
 |[]=>some []
 |o::l=>match lU P Bs ops o,fP P Bs ops l with|some x,some xs=>some (x::xs)|_,_=>none
structure lD (F:Fence):Prop where
 fn:∀f,F.fn f
 depth:F.depth=none
 alive:F.alive=false
theorem lD.fenced {F:Fence} (h:lD F) (P:Program) (mc:Machine):mc.fenced P F:=λg _=>
 ⟨λe=>(by rw[h.alive]at e;cases e),.inl (h.fn _),λ_ _=>h.fn _,λd hd=>by rw[h.depth]at hd;cases hd⟩
theorem lD.steps {F:Fence} (h:lD F) {P:Program} {a b:Machine}:StepsIn (Machine.fenced P F) P a b↔Steps P a b :=
 ⟨StepsIn.steps,λk=>(StepsIn.of_steps k).mono λmc _=>h.fenced P mc⟩
theorem lD.calls {F:Fence} (h:lD F) {n:Nat} {P:Program} {f:FuncId} {args:Array Value} {w:World} {Qv:Ending->World->Prop} (hc:Calls P f args w Qv):CallsIn F n P f args w Qv :=
 ⟨h.fn f,λcs _=>let ⟨e,w',fr,r,s,x⟩:=hc cs;⟨e,w',fr,r,by cases e with|returned v=>exact h.steps.2 s|panicked c=>exact h.steps.2 s|outgrown=>exact s,x⟩⟩
theorem hpe:lD Fence.wide:=⟨λ_=>trivial,rfl,rfl⟩
section
variable {P:Program} {B:dP} {Q1:FuncId->ca} {Bs:List TypeId} {F:Fence} {n:Nat} {ops:Array Oper}
theorem ie10 {o:Oper} {i:l7} (hc:jw P Bs o=some i) (r:Option Nat) (ρ:Operand->Value):o.semAt r ρ=execOp ρ o:=by
 unfold Oper.semAt;split
 ·rename_i l d c ho;simp only[jw,ho]at hc;cases hc
 ·rfl
def kl (B:dP) (m:aN) (sl:List ak) (lh:List ar) (a:Act) (w:World):Prop:=aC m sl a.tmps.toList/\a.defers=B.ds/\bh B m lh w
theorem aaJ (a:Act) (d:Option Tmp) (v:Value):(a.put d v).tmps.toList=match d with|some d=>a.tmps.toList.set d v|none=>a.tmps.toList:=by cases d<;>simp[Act.put]
theorem kl.put {m m':aN} {sl:List ak} {lh lh':List ar} {a:Act} {w w':World} (h:kl B m sl lh a w) (hm:m.le m') (h':bh B m' lh' w') (d:Option Nat) {r:ak} {v:Value} (hr:C5 m' r v) :
 kl B m' (fk sl d r) lh' (a.put d v) w':=by
 refine⟨?_,by cases d<;>exact h.2.1,h'⟩;rw[aaJ];cases d with
 |none=>exact db hm _ _ h.1|some d=>exact lc d (db hm _ _ h.1) hr
theorem jU (hF:lD F) {o:Oper} {i:l7} (hc:jw P Bs o=some i) {a:Act} {w:World} {Qv:Value->World->Prop} {next:Act->World->Prop} {Q2:Exit->Act->World->Prop}
 (h:dz P o a w Qv) (hn:∀v w',Qv v w'->next (a.put o.dst v) w'):o.wpIn F n P a w next Q2:=by
 refine⟨λf _=>hF.fn f,?_⟩;rw[ie10 hc];rcases h with ⟨v,w',M,N⟩|⟨w',M,N⟩|⟨f,args,M,N⟩
 ·rw[M];exact hn _ _ N
 ·rw[M];exact hn _ _ N
 ·rw[M];refine⟨λe=>(by rw[hF.depth]at e;cases e),hF.calls (N.mono λe w' ⟨v,he,hR⟩=>?_)⟩;subst he;exact hn _ _ hR
theorem sc {m:aN} {sl:List ak} {a:Act} (hs:aC m sl a.tmps.toList) {j d:Nat} (hj:(ops[j]?).bind (·.dst)=some d) :
 (∀b,sl.getD d .any=.bool b->yielded ops a.tmps j=some b)/\(∀vs,sl.getD d .any=.tup vs->yielded ops a.tmps j=none)/\(∀k n,sl.getD d .any=.int k n->yielded ops a.tmps j=none):=by
 have key:∀ x,sl.getD d .any=x->x≠.any->∃ v,a.tmps[d]? = some v/\C5 m x v:=λx hx Rw=>by
  cases hg:sl[d]? with
  |none=>simp[List.getD,hg]at hx;exact(Rw hx.symm).elim
  |some y=>
    let ⟨v,hv,hr⟩:=jy d hs hg
    simp[List.getD,hg]at hx;subst hx;exact⟨v,by simpa using hv,hr⟩
 refine⟨λb hb=>?_,λvs hb=>?_,λk n hb=>?_⟩<;>let ⟨v,hv,hr⟩:=key _ hb au<;>simp[yielded,hj,Option.bind_some,hv]
 ·rw[js hr]
 ·simp[C5]at hr;obtain⟨us,rfl,_⟩:=hr;rfl
 ·rw[fV hr]
theorem ga {m:aN} {sl:List ak} {lh:List ar} {a:Act} {w:World} (h:kl B m sl lh a w) {d:Nat} {x:ak} (hx:sl.getD d .any=x):kl B m (sl.set d x) lh a w:=by
 refine⟨?_,h.2.1,h.2.2⟩;cases hg:sl[d]? with
 |none=>rw[List.set_eq_of_length_le (by simpa using hg)];exact h.1
 |some y=>
   simp[List.getD,hg]at hx;subst hx;have:sl.set d y=sl:=by
    apply F4;intro j;rw[Db];split
    ·rename_i e;subst e
     let ⟨M,N⟩:=List.getElem?_eq_some_iff.1 hg
     simp[M,N]
    ·rfl
   rw[this];exact h.1
theorem pZ (hF:lD F) (hS:∀ f,(Q1 f).Sound P f) (hE:∀ t∈Bs,dM P t) {Q2:Exit->Act->World->Prop} (rest:List Nat):∀ (l:List Oper) (xs:List ji) (k:Nat) (sl:List ak) (lh:List ar) (m:aN) (a:Act) (w:World) (At:List ak->List ar->Prop),
 (∀j,j<l.length->l[j]? = ops[k+j]?)->fP P Bs ops l=some xs->fF B.w0 Q1 xs sl lh At->kl B m sl lh a w ->
 (∀sl' lh' m' a' w',kl B m' sl' lh' a' w'->jx lh m lh' m'->At sl' lh'->wpOpsIn F n P ops Q2 rest a' w')->wpOpsIn F n P ops Q2 (List.range' k l.length++rest) a w
 |[],xs,k,sl,lh,m,a,w,At,_,hc,hv,hs,hQ=>by simp[fP,DJ]at hc;subst hc;exact hQ _ _ _ _ _ hs (jx.refl _ _) hv
 |o::l,xs,k,sl,lh,m,a,w,At,hl,hc,hv,hs,hQ=>by
   have h0:ops[k]? = some o:=by simpa using(hl 0 au).symm
   have Ro:∀j,j<l.length->l[j]? = ops[k+1+j]? := λj hj=>by have:=hl (j+1) (by simpa using hj);simpa[I5,Ja 1 j] using this
   simp[fP]at hc;split at hc
   ·rename_i x xs' hx T2
    cases hc;simp[EO,Ii,JM,wpOpsIn,h0];have ih:=λSi lh1 m1 a1 w1 hv hs (he:jx lh m lh1 m1)=>pZ hF hS hE rest l xs' (k+1) Si lh1 m1 a1 w1 At Ro T2 hv hs (λsl' lh' m' a' w' M N h3=>hQ sl' lh' m' a' w' M (he.trans N) h3);unfold lU at hx;split at hx
    ·rename_i i hi hg;cases hx;simp[fF]at hv;rw[CV (by simp[Region.wanted,hg])];refine jU hF hi (qo hS hE hi hs.1 hs.2.2 hv) λv w' ⟨r,m',lh',M,N,h3,h4⟩=>?_;exact ih _ _ m' _ _ h4 (hs.put N.1 h3 o.dst M) N
    ·rename_i i j want hi hg
     split at hx
     ·rename_i d hd
      cases hx;simp[fF]at hv
      let ⟨y1,y2,y3⟩:=sc (ops:=ops) hs.1 hd
      split at hv
      ·rename_i b hb
       have hy:=y1 b hb;by_cases WI:b=want
       ·subst WI;have S0:=ga hs hb;rw[CV (by simp[Region.wanted,hg,hy])];refine jU hF hi (qo hS hE hi S0.1 S0.2.2 (hv.1 rfl)) λv w' ⟨r,m',lh',M,N,h3,h4⟩=>?_;exact ih _ _ m' _ _ h4 (S0.put N.1 h3 o.dst M) N
       ·have WH:b=!want:=by cases b<;>cases want<;>simp_all
        have S0:=ga hs hb;rw[C4 (by simp[Region.wanted,hg,hy,WI])];refine⟨λf _=>hF.fn f,?_⟩;rw[WH]at S0;exact ih _ _ m _ _ (hv.2 WH) (S0.put (aN.le_refl m) hs.2.2 o.dst (by simp[C5,aC,undef])) (jx.refl _ _)
      ·rename_i vs hb;rw[C4 (by simp[Region.wanted,hg,y2 _ hb])];refine⟨λf _=>hF.fn f,?_⟩;exact ih _ _ m _ _ hv ((ga hs hb).put (aN.le_refl m) hs.2.2 o.dst (by simp[C5,aC,undef])) (jx.refl _ _)
      ·rename_i hb;rw[C4 (by simp[Region.wanted,hg,y3 _ _ hb])];refine⟨λf _=>hF.fn f,?_⟩;exact ih _ _ m _ _ hv (hs.put (aN.le_refl m) hs.2.2 o.dst (by simp[C5,aC,undef])) (jx.refl _ _)
      ·exact hv.elim
     ·cases hx
    ·cases hx
   ·cases hc
end
end Go.Sx
namespace Go.Sx
structure ca.Ok (P:Program) (f:FuncId) (Q1:ca):Prop where
 sound:Q1.Sound P f
 mono:∀w0 args lh At K',(∀r l,At r l->K' r l)->Q1 w0 args lh At->Q1 w0 args lh K'
 strict:∀w0 args lh (Q2:Prop),Q1 w0 args lh (λ_ _=>Q2)->Q2
def Ol:l7->Bool
 |.call ..|.callv ..|.app ..=>false|_=>true
section
variable {w0:World} {Q1:FuncId->ca} {sl:List ak} {lh:List ar} {pl:Option Nat}
theorem hnn {o:ar} {At K':Nat->List ar->Prop} (h:∀ p l,At p l->K' p l) (hp:place pl lh o At):place pl lh o K':=by
 cases pl with
 |none=>exact h _ _ hp|some p=>exact⟨hp.1,h _ _ hp.2⟩
theorem hoz (o:ar):∃ d:Option (Nat×List ar),∀ At:Nat->List ar->Prop,place pl lh o At↔∃ p l,d=some (p,l)/\At p l:=by
 cases pl with
 |none=>exact⟨some (lh.length,lh++[o]),λAt=>⟨λh=>⟨_,_,rfl,h⟩,λ⟨p,l,e,h⟩=>by cases e;exact h⟩⟩
 |some p=>
   by_cases hd:lh[p]? = some .dead
   ·exact⟨some (p,lh.set p o),λAt=>⟨λh=>⟨_,_,rfl,h.2⟩,λ⟨Pw,l,e,h⟩=>by cases e;exact⟨hd,h⟩⟩⟩
   ·exact⟨none,λAt=>⟨λh=>(hd h.1).elim,λ⟨Pw,l,e,h⟩=>by cases e⟩⟩
def cr (Φ:(ak->List ar->Prop)->Prop):Prop:=∃d:Option (ak×List ar),∀At,Φ At↔∃v l,d=some (v,l)/\At v l
theorem cr.yes (v:ak) (l:List ar):cr (λAt=>At v l):=⟨some (v,l),λ_=>⟨λh=>⟨_,_,rfl,h⟩,λ⟨_,_,e,h⟩=>by cases e;exact h⟩⟩
theorem cr.no:cr (λ_=>False):=⟨none,λ_=>⟨λh=>h.elim,λ⟨_,_,e,_⟩=>by cases e⟩⟩
theorem cr.and {Φ:(ak->List ar->Prop)->Prop} (p:Prop) (h:cr Φ):cr (λAt=>p/\Φ At):=by
 let ⟨d,hd⟩:=h
 by_cases hp:p
 ·exact⟨d,λAt=>⟨λh=>(hd At).1 h.2,λh=>⟨hp,(hd At).2 h⟩⟩⟩
 ·exact⟨none,λAt=>⟨λh=>(hp h.1).elim,λ⟨_,_,e,_⟩=>by cases e⟩⟩
theorem cr.ex {α:Type} {Φ:α->(ak->List ar->Prop)->Prop} (x:Option α) (h:∀ a,cr (Φ a)):cr (λAt=>∃ a,x=some a/\Φ a At):=by
 cases x with
 |none=>exact⟨none,λAt=>⟨λ⟨_,e,_⟩=>(by cases e),λ⟨_,_,e,_⟩=>(by cases e)⟩⟩
 |some a=>
   let ⟨d,hd⟩:=h a
   exact⟨d,λAt=>⟨λ⟨_,e,hK⟩=>(by cases e;exact(hd At).1 hK),λhK=>⟨a,rfl,(hd At).2 hK⟩⟩⟩
theorem cr.congr {Φ Ψ:(ak->List ar->Prop)->Prop} (h:∀ At,Φ At↔Ψ At) (hd:cr Ψ):cr Φ:=by
 let ⟨d,hd⟩:=hd
 exact⟨d,λAt=>(h At).trans (hd At)⟩
theorem cr.place (o:ar) (f:Nat->ak):cr (λAt=>place pl lh o λp l=>At (f p) l):=by
 let ⟨d,hd⟩:=hoz (lh:=lh) (pl:=pl) o
 refine⟨d.map λ(p,l)=>(f p,l),λAt=>(hd _).trans ⟨λ⟨p,l,e,h⟩=>⟨_,_,by rw[e];rfl,h⟩,λ⟨v,l,e,h⟩=>?_⟩⟩;cases d with
 |none=>cases e|some d=>cases e;exact⟨_,_,rfl,h⟩
theorem cr.bnd {Φ:Nat->(ak->List ar->Prop)->Prop} (x:Option ak) (y d:Nat) (h:∀ n,cr (Φ n)):cr (λAt=>bnd x y d λn=>Φ n At):=by
 unfold Sx.bnd;cases x with
 |none=>exact h d|some x=>cases x<;>first|exact cr.no|exact cr.and _ (cr.and _ (h _))
theorem cr.parts (ps:List (Nat×Nat×gk)):∀ (z:List ak) {Φ:List ak->(ak->List ar->Prop)->Prop},(∀ cs,cr (Φ cs))->cr (λAt=>parts sl ps z λcs=>Φ cs At):=by
 induction ps with
 |nil=>intro z Φ h;exact h z|cons p ps ih=>intro z Φ h;let ⟨off,n,x⟩:=p;exact cr.and _ (cr.and _ (cr.and _ (ih _ h)))
theorem cr.mm2 (b:Bool) (l:List ar):∀ (ys:List ak) (x:ak),cr (λAt=>mm2 b x ys λv=>At v l)
 |[],x=>by cases x<;>exact cr.yes _ _
 |y::ys,x=>by
   cases x with
   |int k a=>cases y with|int k' c=>exact cr.and _ (cr.mm2 b l ys _)|_=>exact cr.no
   |_=>cases y<;>exact cr.no
theorem BA {op:l7} (h:Ol op=true):cr (λAt=>dK w0 Q1 sl lh pl At op):=by
 cases op<;>simp only[Ol,Ee]at h<;>clear h<;>simp only[dK]
 case mov=>exact cr.yes _ _
 case pick c x y=>
  cases arg sl c<;>try exact cr.no
  rename_i t
  cases t
  ·exact cr.congr (λAt=>⟨λh=>h.2 rfl,λh=>⟨λe=>(by cases e),λ_=>h⟩⟩) (cr.yes (arg sl y) lh)
  ·exact cr.congr (λAt=>⟨λh=>h.1 rfl,λh=>⟨λ_=>h,λe=>(by cases e)⟩⟩) (cr.yes (arg sl x) lh)
 case new=>exact cr.place _ _
 case box=>exact cr.and _ (cr.place _ _)
 case agg=>exact cr.parts _ _ λ_=>cr.yes _ _
 case bsl=>exact cr.parts _ _ λ_=>cr.place _ _
 case ld x=>
  cases arg sl x<;>try exact cr.no
  rename_i p
  cases p
  ·exact cr.no
  ·exact cr.ex _ λ_=>cr.yes _ _
 case lds n x=>
  cases arg sl x<;>try exact cr.no
  rename_i p
  cases p
  ·exact cr.no
  ·exact cr.ex _ λ_=>cr.yes _ _
 case isn neg x=>
  cases arg sl x<;>first|exact cr.no|exact cr.yes _ _
 case clr esz z x=>
  cases arg sl x<;>try exact cr.no
  rename_i p n c
  cases p with
  |none=>exact cr.and _ (cr.yes _ _)
  |some p=>
    cases p with
    |g a=>exact cr.and _ (cr.yes _ _)
    |l k off=>
      cases hg:lh[k]? with
      |none=>exact cr.congr (λAt=>⟨λ⟨_,_,e,_⟩=>(by rw[hg]at e;cases e),λh=>h.elim⟩) cr.no
      |some ob=>
        cases ob with
        |cells cs ty=>
          refine cr.congr (Ψ:=λAt=>n≠0/\off+n*esz<=cs.length/\At (.tup []) (lh.set k (.cells (wr cs off (List.replicate n z).flatten) ty))) (λAt=>?_) (cr.and _ (cr.and _ (cr.yes _ _)))
          constructor
          ·rintro⟨cs',ty',e,M,N,h3⟩
           rw[hg]at e;cases e;exact⟨M,N,h3⟩
          ·rintro⟨M,N,h3⟩
           exact⟨cs,ty,hg,M,N,h3⟩
        |dead=>exact cr.congr (λAt=>⟨λ⟨_,_,e,_⟩=>(by rw[hg]at e;cases e),λh=>h.elim⟩) cr.no
        |hid=>exact cr.congr (λAt=>⟨λ⟨_,_,e,_⟩=>(by rw[hg]at e;cases e),λh=>h.elim⟩) cr.no
 case st n x y=>
  cases arg sl x<;>try exact cr.no
  rename_i p
  cases p
  ·exact cr.no
  rename_i p
  cases p
  ·rename_i k off
   cases hg:lh[k]? with
   |none=>exact cr.congr (λAt=>⟨λ⟨_,_,e,_⟩=>(by rw[hg]at e;cases e),λh=>h.elim⟩) cr.no
   |some ob=>
     cases ob with
     |cells cs ty=>
       refine cr.congr (Ψ:=λAt=>(arg sl y).flat=true/\(arg sl y).cells.length=n/\off+n<=cs.length/\At (.tup []) (lh.set k (.cells (wr cs off (arg sl y).cells) ty))) (λAt=>?_) (cr.and _ (cr.and _ (cr.and _ (cr.yes _ _))))
       exact⟨λ⟨_,_,e,h⟩=>(by rw[hg]at e;cases e;exact h),λh=>⟨cs,ty,hg,h⟩⟩
     |_=>exact cr.congr (λAt=>⟨λ⟨_,_,e,_⟩=>(by rw[hg]at e;cases e),λh=>h.elim⟩) cr.no
  ·exact cr.no
 case nz x=>
  cases arg sl x<;>try exact cr.no
  ·rename_i p
   cases p
   ·exact cr.no
   ·exact cr.yes _ _
  ·rename_i f _ _
   cases f<;>first|exact cr.yes _ _|exact cr.no
 case bin op x y=>
  unfold Q6
  cases arg sl x<;>cases arg sl y<;>try exact cr.no
  ·refine cr.and _ ?_
   cases op<;>simp only[uh]<;>first|exact cr.yes _ _|exact cr.and _ (cr.yes _ _)|exact cr.no
  ·cases op<;>simp only[CB]<;>first|exact cr.yes _ _|exact cr.and _ (cr.yes _ _)|exact cr.no
 case eqa neg n x y=>
  cases arg sl x<;>cases arg sl y<;>try exact cr.no
  exact cr.and _ (cr.ex _ λ_=>cr.yes _ _)
 case eqb neg x y=>
  cases arg sl x<;>cases arg sl y<;>try exact cr.no
  exact cr.yes _ _
 case un op x=>
  cases op<;>cases arg sl x<;>first|exact cr.no|exact cr.yes _ _
 case conv k x=>cases arg sl x<;>first|exact cr.no|exact cr.yes _ _
 case mkf=>exact cr.yes _ _
 case fa off x=>
  cases arg sl x<;>try exact cr.no
  rename_i p
  cases p<;>first|exact cr.no|exact cr.yes _ _
 case fld off n x=>
  cases arg sl x<;>try exact cr.no
  cases n
  ·exact cr.ex _ λ_=>cr.yes _ _
  ·exact cr.yes _ _
 case iaA n esz x ix=>
  cases arg sl x<;>try exact cr.no
  rename_i p
  cases p<;>try exact cr.no
  cases arg sl ix<;>first|exact cr.no|exact cr.and _ (cr.and _ (cr.yes _ _))
 case iaS esz x ix=>
  cases arg sl x<;>try exact cr.no
  cases arg sl ix<;>first|exact cr.no|exact cr.and _ (cr.and _ (cr.ex _ λ_=>cr.yes _ _))
 case ixA n esz sz x ix=>
  cases arg sl x<;>try exact cr.no
  cases arg sl ix<;>try exact cr.no
  refine cr.and _ (cr.and _ ?_)
  cases sz
  ·exact cr.ex _ λ_=>cr.yes _ _
  ·exact cr.yes _ _
 case ixS x ix=>
  cases arg sl x<;>try exact cr.no
  cases arg sl ix<;>first|exact cr.no|exact cr.and _ (cr.and _ (cr.yes _ _))
 case len x=>cases arg sl x<;>first|exact cr.no|exact cr.yes _ _
 case lenT x=>cases arg sl x<;>first|exact cr.no|exact cr.yes _ _
 case lenA=>exact cr.yes _ _
 case mm=>exact cr.mm2 _ _ _ _
 case ext x i=>
  cases arg sl x<;>try exact cr.no
  exact cr.ex _ λ_=>cr.yes _ _
 case slS esz x lo hi mx=>
  cases arg sl x<;>try exact cr.no
  exact cr.bnd _ _ _ λ_=>cr.bnd _ _ _ λ_=>cr.bnd _ _ _ λ_=>cr.yes _ _
 case slA n esz x lo hi mx=>
  cases arg sl x<;>try exact cr.no
  rename_i p
  cases p<;>try exact cr.no
  exact cr.bnd _ _ _ λ_=>cr.bnd _ _ _ λ_=>cr.bnd _ _ _ λ_=>cr.yes _ _
 case slT x lo hi=>
  cases arg sl x<;>try exact cr.no
  exact cr.bnd _ _ _ λ_=>cr.bnd _ _ _ λ_=>cr.yes _ _
 case mks=>exact cr.place _ _
theorem cr.mono {Φ:(ak->List ar->Prop)->Prop} (h:cr Φ) {At K':ak->List ar->Prop} (hk:∀ v l,At v l->K' v l) (hp:Φ At):Φ K':=by
 let ⟨d,hd⟩:=h
 let ⟨v,l,e,hK⟩:=(hd At).1 hp
 exact(hd K').2 ⟨v,l,e,hk _ _ hK⟩
theorem ho' {ty:TypeId} {esz bytes:Nat} {zero:List ak} {At K':ak->List ar->Prop} {x y:ak} (hk:∀ v l,At v l->K' v l) (h:ua w0 lh pl ty esz bytes zero At x y):ua w0 lh pl ty esz bytes zero K' x y:=by
 unfold ua at *
 split at h
 ·rename_i p n c Pw k _
  let ⟨new,M,N,h3⟩:=h
  refine⟨new,M,λhc=>?_,λhc=>?_⟩
  ·have N:=N hc
   cases p with
   |none=>exact hk _ _ N
   |some p=>cases p with
     |l b off=>let ⟨cs,t,a,b,c,d⟩:=N;exact⟨cs,t,a,b,c,hk _ _ d⟩
     |g a=>exact⟨N.1,hk _ _ N.2⟩
  ·let ⟨old,a,b,c,d⟩:=h3 hc
   exact⟨old,a,b,c,λc' SO=>hnn (λ_ _=>hk _ _) (d c' SO)⟩
 ·exact h.elim
theorem hlv {o:ar} {Q2:Prop} (h:place pl lh o λ_ _=>Q2):Q2:=by
 cases pl with
 |none=>exact h|some p=>exact h.2
theorem hlo {ty:TypeId} {esz bytes:Nat} {zero:List ak} {Q2:Prop} {x y:ak} (h:ua w0 lh pl ty esz bytes zero (λ_ _=>Q2) x y):Q2:=by
 unfold ua at h;split at h
 ·rename_i p n c Pw k _
  let ⟨new,M,N,h3⟩:=h
  by_cases hc:n+k<=c
  ·have N:=N hc
   cases p with
   |none=>exact N
   |some p=>cases p with
     |l b off=>let ⟨cs,t,a,b,c,d⟩:=N;exact d
     |g a=>exact N.2
  ·let ⟨old,a,b,c,d⟩:=h3 K
   exact hlv (d _ (D7 _))
 ·exact h.elim
theorem dX {P:Program} (hS:∀ f,(Q1 f).Ok P f) {op:l7} {At K':ak->List ar->Prop} (hk:∀ v l,At v l->K' v l) (h:dK w0 Q1 sl lh pl At op):dK w0 Q1 sl lh pl K' op:=by
 by_cases hd:Ol op=true
 ·exact(BA hd).mono hk h
 ·cases op<;>simp[Ol,K4]at hd<;>simp[dK]at h ⊢
  case call f xs=>exact(hS f).mono _ _ _ _ _ hk h
  case callv x xs=>
   split at h
   ·exact(hS _).mono _ _ _ _ _ hk h
   ·exact h.elim
  case app=>exact ho' hk h
theorem oP {P:Program} (hS:∀ f,(Q1 f).Ok P f) {op:l7} {Q2:Prop} (h:dK w0 Q1 sl lh pl (λ_ _=>Q2) op):Q2:=by
 by_cases hd:Ol op=true
 ·let ⟨d,hd⟩:=BA (w0:=w0) (Q1:=Q1) (sl:=sl) (lh:=lh) (pl:=pl) hd
  let ⟨_,_,_,hQ⟩:=(hd _).1 h
  exact hQ
 ·cases op<;>simp[Ol,K4]at hd<;>simp[dK]at h
  case call f xs=>exact(hS f).strict _ _ _ _ h
  case callv x xs=>
   split at h
   ·exact(hS _).strict _ _ _ _ h
   ·exact h.elim
  case app=>exact hlo h
end
end Go.Sx
namespace Go.Sx
def hide (X:List Nat) (lh:List ar):List ar:=lh.mapIdx λk o=>if k∈X then .hid else o
def mix (QW:List Nat) (lh l:List ar):List ar:=lh.mapIdx λk o=>if k∈QW then l.getD k o else o
def kT (QW:List Nat) (l h:List ar):Prop:=l.length=h.length/\∀k,k∉QW->l[k]? = h[k]?
theorem hide_get (X:List Nat) (lh:List ar) (k:Nat):(hide X lh)[k]? = if k∈X then lh[k]?.map (λ_=>.hid) else lh[k]? := by
 unfold hide;rw[K3];split
 ·cases lh[k]? with|none=>rfl|some o=>simp
 ·cases lh[k]? with|none=>rfl|some o=>simp
theorem hide_length (X:List Nat) (lh:List ar):(hide X lh).length=lh.length:=by simp[hide]
theorem wo (QW:List Nat) (lh l:List ar) (k:Nat):(mix QW lh l)[k]? = if k∈QW then lh[k]?.map (λo=>l.getD k o) else lh[k]? := by
 unfold mix;rw[K3];split
 ·cases lh[k]? with|none=>rfl|some o=>simp
 ·cases lh[k]? with|none=>rfl|some o=>simp
theorem hnp (QW:List Nat) (lh l:List ar):(mix QW lh l).length=lh.length:=by simp[mix]
theorem bh.unhide {B:dP} {m m':aN} {lh lh':List ar} {w w':World} {X QW:List Nat} (h:bh B m lh w)
 (h':bh ⟨B.w0,w,λb=>∃k cs ty,k∉X/\lh[k]? = some (.cells cs ty)/\m k=some b,B.ds⟩ m' lh' w') (he:jx (hide X lh) m lh' m') (hw:kT QW lh' (hide X lh)) :
 bh B m' (mix QW lh lh') w'/\jx lh m (mix QW lh lh') m':=by
 have hlen:lh'.length=lh.length:=by rw[hw.1,hide_length]
 have hent:∀ k o,(mix QW lh lh')[k]? = some o->(lh'[k]? = some o) ∨ (k ∈ X/\lh[k]? = some o/\lh'[k]? = some .hid):=λk o hk=>by
  rw[wo]at hk;split at hk
  ·cases hl:lh[k]? with
   |none=>rw[hl]at hk;cases hk
   |some o'=>
     rw[hl]at hk;simp at hk;have Q7:k<lh'.length:=by rw[hlen];exact(List.getElem?_eq_some_iff.1 hl).1
     left;rw[EZ Q7]at hk ⊢;simpa using hk
  ·rename_i iy17
   have Rv:=hw.2 k iy17;rw[hide_get]at Rv;split at Rv
   ·rename_i hX;right;exact⟨hX,hk,by rw[Rv,hk];rfl⟩
   ·left;rw[Rv];exact hk
 have hnoown:∀k cs ty b,k∈X->lh[k]? = some (.cells cs ty)->m k=some b->¬ ∃j cs ty,j∉X/\lh[j]? = some (ar.cells cs ty)/\m j=some b:=λk cs ty b hX hk hb ⟨j,cs',ty',hj,hl,Qx⟩=>by exact hj (h.inj j k b cs' cs ty' ty hl hk Qx hb▸hX)
 refine⟨⟨h'.os.trans h.os,h'.tape.trans h.tape,h'.output.trans h.output,h'.size,h'.old,Eg h.fsize h'.fsize,λb hb ho=>?_,λk cs ty hk=>?_,λk k' b cs cs' ty ty' M N hb Qx=>?_,λk hk=>?_,λk hk=>?_,h'.rng⟩,he.1,λk hk=>?_⟩
 ·rw [h'.kept b (Fj hb h.fsize) (λ⟨k,cs,ty,_,hl,hm⟩=>?_)]
  ·exact h.kept b hb ho
  ·let ⟨b',_,Qx,_,_,_,h3⟩:=h.loc k cs ty hl
   rw[hm]at Qx;cases Qx;rcases h3 with h3|h3
   ·omega
   ·exact ho h3
 ·rcases hent k _ hk with hl|⟨hX,hl,_⟩
  ·let ⟨b,vs,hb,R3,hh,M,N⟩:=h'.loc k cs ty hl
   refine⟨b,vs,hb,R3,hh,M,?_⟩;rcases N with N|⟨j,cs',ty',hj,Vj,sa⟩
   ·exact .inl (Eg h.fsize N)
   ·let ⟨b',_,Qx,_,_,_,h3⟩:=h.loc j cs' ty' Vj
    rw[sa]at Qx;cases Qx;exact h3
  ·let ⟨b,vs,hb,R3,hh,M,N⟩:=h.loc k cs ty hl
   refine⟨b,vs,he.1 _ _ hb,db he.1 _ _ R3,?_,M,N⟩;rw[h'.kept b (h.rng k b hb) (hnoown k cs ty b hX hl hb)];exact hh
 ·have mixed:∀ k k' b cs cs' ty ty',lh'[k]? = some (.cells cs ty)->k' ∈ X->lh[k']? = some (.cells cs' ty')->m' k=some b->m' k'=some b->False:=λk k' b cs cs' ty ty' hl hX Ro hb Qx=>by
   let ⟨b0,_,Rz,_⟩:=h.loc k' cs' ty' Ro
   have e:=he.1 _ _ Rz;rw[Qx]at e;cases e
   let ⟨b1,_,SE,_,_,_,N⟩:=h'.loc k cs ty hl
   rw[hb]at SE;cases SE;rcases N with N|N
   ·have h3:=h.rng k' b Rz;have h4:w.heap.size<=b:=N;omega
   ·exact hnoown k' cs' ty' b hX Ro Rz N
  rcases hent k _ M with hl|⟨hX,hl,_⟩<;>rcases hent k' _ N with Ro|⟨X9,Ro,_⟩
  ·exact h'.inj k k' b cs cs' ty ty' hl Ro hb Qx
  ·exact(mixed k k' b cs cs' ty ty' hl X9 Ro hb Qx).elim
  ·exact(mixed k' k b cs' cs ty' ty Ro hX hl Qx hb).elim
  ·let ⟨b0,_,Rz,_⟩:=h.loc k cs ty hl
   let ⟨b1,_,SE,_⟩:=h.loc k' cs' ty' Ro
   have e:=he.1 _ _ Rz;rw[hb]at e;cases e;have e:=he.1 _ _ SE;rw[Qx]at e;cases e;exact h.inj k k' b cs cs' ty ty' hl Ro Rz SE
 ·exact h'.dom k (by rw[hnp]at hk;omega)
 ·rcases hent k _ hk with hl|⟨hX,hl,Ro⟩
  ·exact h'.dead k hl
  ·have hd:=h.dead k hl
   have hh:(hide X lh)[k]? = some .hid:=by rw[hide_get,CV hX,hl];rfl
   rw[(he.2 k hh).2];exact hd
 ·have hh:(hide X lh)[k]? = some .hid:=by
   rw[hide_get];split
   ·rw[hk];rfl
   ·exact hk
  let ⟨M,N⟩:=he.2 k hh
  refine⟨?_,N⟩;rw[wo];split
  ·rw[hk];simp[List.getD,M]
  ·exact hk
theorem bh.hide {B:dP} {m:aN} {lh:List ar} {w:World} (h:bh B m lh w) (X:List Nat) :
 bh ⟨B.w0,w,λb=>∃k cs ty,k∉X/\lh[k]? = some (.cells cs ty)/\m k=some b,B.ds⟩ m (hide X lh) w:=by
 have hv:∀ k cs ty,(Sx.hide X lh)[k]? = some (.cells cs ty)->k∉X/\lh[k]? = some (.cells cs ty):=λk cs ty hk=>by
  rw[hide_get]at hk;split at hk
  ·cases hl:lh[k]? <;> rw[hl]at hk<;>cases hk
  ·exact⟨by assumption,hk⟩
 refine⟨rfl,rfl,rfl,h.size,h.old,D7 _,λ_ _ _=>rfl,λk cs ty hk=>?_,λk k' b cs cs' ty ty' M N hb Qx=>?_,λk hk=>h.dom k (by rw[hide_length]at hk;exact hk),λk hk=>?_,h.rng⟩
 ·let ⟨hX,hl⟩:=hv k cs ty hk
  let ⟨b,vs,hb,R3,hh,M,_⟩:=h.loc k cs ty hl
  exact⟨b,vs,hb,R3,hh,M,.inr ⟨k,cs,ty,hX,hl,hb⟩⟩
 ·exact h.inj k k' b cs cs' ty ty' (hv _ _ _ M).2 (hv _ _ _ N).2 hb Qx
 ·rw[hide_get]at hk;split at hk
  ·cases hl:lh[k]? <;> rw[hl]at hk<;>cases hk
  ·exact h.dead k hk
inductive Eh where|run (v:ak) (l:List ar)|skip
def pY (w0:World) (Q1:FuncId->ca) (QW:List Nat) (pl:Option Nat) (o:ji) (sl:List ak) (hl:List ar) (At:Eh->Prop):Prop :=
 match o.guard with
 |none=>dK w0 Q1 sl hl pl (λv l=>kT QW l hl/\At (.run v l)) o.op
 |some (d,want)=>
   match sl.getD d .any with
   |.bool b=>(b=want->dK w0 Q1 sl hl pl (λv l=>kT QW l hl/\At (.run v l)) o.op)/\(b=!want->At .skip)|.tup _=>At .skip|.int ..=>At .skip|_=>False
def kA (o:ji) (sl:List ak):Eh->List ak
 |.run v _=>fk sl o.dst v|.skip=>fk sl o.dst (.tup [])
def lS (QW:List Nat) (lh:List ar):Eh->List ar
 |.run _ l=>mix QW lh l|.skip=>lh
def Mv (w0:World) (Q1:FuncId->ca) (X QW:List Nat) (pl:Option Nat) (o:ji) (sl:List ak) (lh:List ar) (At:List ak->List ar->Prop):Prop :=
 pY w0 Q1 QW pl o sl (hide X lh) λe=>At (kA o sl e) (lS QW lh e)
section
variable {P:Program} {Q1:FuncId->ca} {QW X:List Nat} {pl:Option Nat} {o:ji} {sl sl':List ak} {lh lh' hl:List ar} {w0:World}
theorem nO (hS:∀ f,(Q1 f).Ok P f) {At K':Eh->Prop} (hk:∀ e,At e->K' e) (h:pY w0 Q1 QW pl o sl hl At):pY w0 Q1 QW pl o sl hl K':=by
 unfold pY at *
 split
 ·rename_i hg;rw[hg]at h;exact dX hS (λ_ _ ⟨a,b⟩=>⟨a,hk _ b⟩) h
 ·rename_i d want hg
  rw[hg]at h;dsimp only at h;split at h
  ·exact⟨λe=>dX hS (λ_ _ ⟨a,b⟩=>⟨a,hk _ b⟩) (h.1 e),λe=>hk _ (h.2 e)⟩
  ·exact hk _ h
  ·exact hk _ h
  ·exact h.elim
theorem pg (hS:∀ f,(Q1 f).Ok P f) {Q2:Prop} (h:pY w0 Q1 QW pl o sl hl λ_=>Q2):Q2:=by
 unfold pY at h;split at h
 ·exact oP hS (dX hS (K':=λ_ _=>Q2) (λ_ _ ⟨_,b⟩=>b) h)
 ·rename_i d want hg
  split at h
  ·rename_i b _
   by_cases e:b=want
   ·exact oP hS (dX hS (K':=λ_ _=>Q2) (λ_ _ ⟨_,b⟩=>b) (h.1 e))
   ·exact h.2 (by cases b<;>cases want<;>simp_all)
  ·exact h
  ·exact h
  ·exact h.elim
theorem F63 (hd:Ol o.op=true):∃ d:Option Eh,∀ At,pY w0 Q1 QW pl o sl hl At↔∃ e,d=some e/\At e:=by
 let ⟨d,hd⟩:=BA (w0:=w0) (Q1:=Q1) (sl:=sl) (lh:=hl) (pl:=pl) hd
 have hrun:∃ d':Option Eh,∀ At:Eh->Prop,dK w0 Q1 sl hl pl (λv l=>kT QW l hl/\At (.run v l)) o.op↔∃ e,d'=some e/\At e:=by
  cases d with
  |none=>exact⟨none,λAt=>(hd _).trans ⟨λ⟨_,_,e,_⟩=>(by cases e),λ⟨_,e,_⟩=>(by cases e)⟩⟩
  |some p=>
    let ⟨v,l⟩:=p
    by_cases hs:kT QW l hl
    ·exact⟨some (.run v l),λAt=>(hd _).trans ⟨λ⟨_,_,e,h⟩=>(by cases e;exact⟨_,rfl,h.2⟩),λ⟨_,e,h⟩=>(by cases e;exact⟨v,l,rfl,hs,h⟩)⟩⟩
    ·exact⟨none,λAt=>(hd _).trans ⟨λ⟨_,_,e,h⟩=>(by cases e;exact(hs h.1).elim),λ⟨_,e,_⟩=>(by cases e)⟩⟩
 have hskip:∃d':Option Eh,∀At:Eh->Prop,At .skip↔∃e,d'=some e/\At e:=⟨some .skip,λAt=>⟨λh=>⟨_,rfl,h⟩,λ⟨_,e,h⟩=>(by cases e;exact h)⟩⟩;unfold pY;cases hg:o.guard with
 |none=>exact hrun
 |some g=>
   let ⟨t,want⟩:=g
   simp only
   cases hv:sl.getD t .any with
   |bool b=>
     simp only
     by_cases e:b=want
     ·let ⟨d',h'⟩:=hrun
      refine⟨d',λAt=>⟨λh=>(h' At).1 (h.1 e),λh=>⟨λ_=>(h' At).2 h,λe'=>?_⟩⟩⟩;have:=e.symm.trans e';cases want<;>cases this
     ·let ⟨d',h'⟩:=hskip
      refine⟨d',λAt=>⟨λh=>(h' At).1 (h.2 (by clear h h';cases b<;>cases want<;>first|rfl|exact(e rfl).elim)),λh=>⟨λe'=>(e e').elim,λ_=>(h' At).2 h⟩⟩⟩
   |tup _=>exact hskip|int _ _=>exact hskip|_=>exact⟨none,λAt=>⟨λh=>h.elim,λ⟨_,e,_⟩=>(by cases e)⟩⟩
end
end Go.Sx
namespace Go.Sx
def l7.args:l7->List gk
 |.mov x|.box _ x|.ld x|.lds _ x|.nz x|.un _ x|.conv _ x|.fa _ x|.fld _ _ x|.len x|.lenT x|.ext x _|.isn _ x|.clr _ _ x=>[x]
 |.pick c a b=>[c,a,b]
 |.new ..|.lenA _|.mks ..=>[]
 |.agg _ ps|.bsl _ _ _ ps=>ps.map (·.2.2)
 |.st _ a x|.bin _ a x|.eqa _ _ a x|.eqb _ a x|.iaA _ _ a x|.iaS _ a x|.ixA _ _ _ a x|.ixS a x|.app _ _ _ _ a x=>[a,x]
 |.mkf _ xs ys=>xs++ys
 |.mm _ x xs=>x::xs
 |.slS _ x lo hi mx|.slA _ _ x lo hi mx=>x::(lo.toList++hi.toList++mx.toList)
 |.slT x lo hi=>x::(lo.toList++hi.toList)
 |.call _ xs=>xs
 |.callv x xs=>x::xs
def sI (xs:List gk):List Nat:=xs.filterMap λ|.t i=>some i|.k _=>none
def ji.reads (o:ji):List Nat:=sI o.op.args++(match o.guard with|some (d,_)=>[d]|none=>[])
section
variable {P:Program} {Q1:FuncId->ca} {QW X:List Nat} {pl:Option Nat} {o:ji} {sl sl':List ak} {lh lh' hl:List ar} {w0:World}
theorem hi8 (ps:List (Nat×Nat×gk)) (At:List ak->Prop) (h:∀ x∈ps.map (·.2.2),arg sl x=arg sl' x):∀ z,parts sl ps z At=parts sl' ps z At:=by
 induction ps with
 |nil=>intro z;rfl
 |cons p ps ih=>
   intro z
   let ⟨off,n,x⟩:=p
   simp[parts];rw[h x au,ih (λy hy=>h y (by simp at hy ⊢;exact .inr hy))]
theorem g8 {xs:List gk} (h:∀x∈xs,arg sl x=arg sl' x):xs.map (arg sl)=xs.map (arg sl'):=JF h
theorem eG {x:Option gk} (h:∀ y∈x.toList,arg sl y=arg sl' y):x.map (arg sl)=x.map (arg sl'):=by
 cases x with
 |none=>rfl|some x=>simp[h x au]
theorem qf {op:l7} {At:ak->List ar->Prop} (h:∀ x∈op.args,arg sl x=arg sl' x):dK w0 Q1 sl lh pl At op=dK w0 Q1 sl' lh pl At op:=by
 cases op<;>simp only[l7.args,ET,I4,or_false,Kv,forall_eq,Ih]at h<;>simp only[dK]
 case agg=>exact hi8 _ _ h _
 case bsl=>exact hi8 _ _ h _
 case mkf f xs ys=>rw[g8 (λx hx=>h x (.inl hx)),g8 (λx hx=>h x (.inr hx))]
 case mm=>rw[h.1,g8 h.2]
 case slS esz x lo hi mx=>rw[h.1,eG (λy hy=>h.2 y (.inl (.inl hy))),eG (λy hy=>h.2 y (.inl (.inr hy))),eG (λy hy=>h.2 y (.inr hy))]
 case slA n esz x lo hi mx=>rw[h.1,eG (λy hy=>h.2 y (.inl (.inl hy))),eG (λy hy=>h.2 y (.inl (.inr hy))),eG (λy hy=>h.2 y (.inr hy))]
 case slT x lo hi=>rw[h.1,eG (λy hy=>h.2 y (.inl hy)),eG (λy hy=>h.2 y (.inr hy))]
 case call=>rw[g8 h]
 case callv=>rw[h.1,g8 h.2]
 all_goals first
  |rfl|rw[h]|rw[h.1,h.2]|rw[h.1,h.2.1,h.2.2]
theorem hkl {At:Eh->Prop} (h:∀ t∈o.reads,sl.getD t .any=sl'.getD t .any):pY w0 Q1 QW pl o sl hl At=pY w0 Q1 QW pl o sl' hl At:=by
 have ha:∀ x∈o.op.args,arg sl x=arg sl' x:=λx hx=>by
  cases x with
  |t i=>exact h i (K2 _ (List.mem_filterMap.2 ⟨_,hx,rfl⟩))|k v=>rfl
 unfold pY;cases hg:o.guard with
 |none=>exact qf ha
 |some g=>
   let ⟨d,want⟩:=g
   simp only
   rw[h d (by simp[ji.reads,hg]),qf ha]
def pH (x y:ji):Bool :=
 (match x.dst with|some d=>!y.reads.contains d&&y.dst !=some d|none=>true)&&(match y.dst with|some d=>!x.reads.contains d|none=>true)
theorem pU {x y:ji} (h:pH x y=true):(∀ d,x.dst=some d->d∉y.reads)/\(∀ d,x.dst=some d->y.dst≠some d)/\(∀ d,y.dst=some d->d∉x.reads):=by
 refine⟨λd hd=>?_,λd hd=>?_,λd hd=>?_⟩<;>simp[pH,hd]at h
 ·exact h.1.1
 ·exact h.1.2
 ·exact h.2
theorem As {d:Option Nat} {v:ak} {t:Nat} (h:d≠some t):(fk sl d v).getD t .any=sl.getD t .any:=by
 cases d with
 |none=>rfl
 |some d=>simp only[fk];rw[I3,Db,C4 (λe=>h (by rw[e])),← I3]
theorem hkW {x:ji} {e:Eh} {t:Nat} (h:x.dst≠some t):(kA x sl e).getD t .any=sl.getD t .any:=by cases e<;>exact As h
theorem hk1 {e:Eh} (h:∀ k∈QW,k∈X):hide X (lS QW lh e)=hide X lh:=by
 cases e with
 |skip=>rfl
 |run v l=>
   apply F4;intro k;rw[hide_get,hide_get];simp[lS];rw[wo];by_cases hX:k∈X
   ·rw[CV hX,CV hX]
    split
    ·cases lh[k]? <;> rfl
    ·rfl
   ·rw[C4 hX,C4 hX,C4 (λhW=>hX (h k hW))]
theorem Pg {d d':Option Nat} {u v:ak} (h:∀ k,d=some k->d'≠some k):fk (fk sl d u) d' v=fk (fk sl d' v) d u:=by
 cases d with
 |none=>rfl
 |some d=>cases d' with|none=>rfl|some d'=>exact List.set_comm _ _ (λe=>h d rfl (by rw[e]))
theorem hnc {x y:ji} {e e':Eh} (h:∀k,x.dst=some k->y.dst≠some k):kA y (kA x sl e) e'=kA x (kA y sl e') e:=by cases e<;>cases e'<;>exact Pg h
theorem hnr {V:List Nat} {e e':Eh} (h:∀ k∈QW,k∉V):lS V (lS QW lh e) e'=lS QW (lS V lh e') e:=by
 cases e with
 |skip=>rfl
 |run v l=>cases e' with
   |skip=>rfl
   |run v' l'=>
     apply F4;intro k;simp[lS,wo];by_cases hW:k∈QW
     ·simp[hW,h k hW]
     ·simp[hW]
theorem au0 (hS:∀ f,(Q1 f).Ok P f) {x y:ji} {X' W':List Nat} {pl':Option Nat} (oW:pH x y=true) (hdet:Ol x.op=true∨Ol y.op=true) (M:∀ k∈W',k∈X) (N:∀ k∈QW,k∈X') (h3:∀ k∈QW,k∉W')
 {At:List ak->List ar->Prop} (h:Mv w0 Q1 X QW pl x sl lh λSi lh1=>Mv w0 Q1 X' W' pl' y Si lh1 At):Mv w0 Q1 X' W' pl' y sl lh λSi lh1=>Mv w0 Q1 X QW pl x Si lh1 At:=by
 let ⟨a1,a2,a3⟩:=pU oW
 have loc1:∀e (At:Eh->Prop),pY w0 Q1 W' pl' y (kA x sl e) (hide X' (lS QW lh e)) At=pY w0 Q1 W' pl' y sl (hide X' lh) At:=λe At=>by rw[hk1 N];exact hkl λt ht=>hkW (λe=>a1 t e ht)
 have loc2:∀e (At:Eh->Prop),pY w0 Q1 QW pl x (kA y sl e) (hide X (lS W' lh e)) At=pY w0 Q1 QW pl x sl (hide X lh) At:=λe At=>by rw[hk1 M];exact hkl λt ht=>hkW (λe=>a3 t e ht)
 have comm:∀ex ey,At (kA y (kA x sl ex) ey) (lS W' (lS QW lh ex) ey)↔At (kA x (kA y sl ey) ex) (lS QW (lS W' lh ey) ex):=λex ey=>by rw[hnc a2,hnr h3]
 unfold Mv at *
 simp[loc1]at h;simp[loc2];rcases hdet with hd|hd
 ·let ⟨d,hd⟩:=F63 (w0:=w0) (Q1:=Q1) (QW:=QW) (pl:=pl) (sl:=sl) (hl:=hide X lh) hd
  let ⟨ex,hex,h⟩:=(hd _).1 h
  exact nO hS (λey hK=>(hd _).2 ⟨ex,hex,(comm ex ey).1 hK⟩) h
 ·let ⟨d,hd⟩:=F63 (w0:=w0) (Q1:=Q1) (QW:=W') (pl:=pl') (sl:=sl) (hl:=hide X' lh) hd
  have hsome:∃ey,d=some ey:=pg hS (nO hS (λex hy=>let ⟨ey,Zu,_⟩:=(hd _).1 hy;⟨ey,Zu⟩) h)
  let ⟨ey,Zu⟩:=hsome
  refine(hd _).2 ⟨ey,Zu,nO hS (λex hy=>?_) h⟩
  let ⟨ey',hey',hK⟩:=(hd _).1 hy
  rw[Zu]at hey';cases hey';exact(comm ex ey).1 hK
theorem xz (hS:∀ f,(Q1 f).Ok P f) {At K':List ak->List ar->Prop} (hk:∀ s l,At s l->K' s l) (h:Mv w0 Q1 X QW pl o sl lh At):Mv w0 Q1 X QW pl o sl lh K' :=
 nO hS (λ_=>hk _ _) h
end
inductive Eo where|fresh (r:Nat)|slot (s:Nat)|load (s off:Nat)
structure jd where
 o:ji
 rk:Option Nat
 un:List Nat
 ws:List Eo
def IB:l7->Bool
 |.st ..|.app ..|.new ..|.box ..|.bsl ..|.mks ..|.clr ..=>true|_=>false
def Dl (Ws:List (List Nat)) (i:Nat):List Nat:=Ws.getD i []
def HI (Ws:List (List Nat)) (un:List Nat):List Nat:=un.flatMap (Dl Ws)
def EW (w0:World) (Q1:FuncId->ca) (ds:List jd) (Ws:List (List Nat)) (H i:Nat) (At:List ak->List ar->Prop) (sl:List ak) (lh:List ar):Prop :=
 match ds[i]? with
 |none=>At sl lh|some d=>Mv w0 Q1 (HI Ws d.un) (Dl Ws i) (d.rk.map (H+·)) d.o sl lh At
def GN (w0:World) (Q1:FuncId->ca) (ops:Array Oper) (ds:List jd) (Ws:List (List Nat)) (H:Nat) (At:List ak->List ar->Prop):Nat->Array Bool->List ak->List ar->Prop
 |0,listed,sl,lh=>Region.ready .any ops listed=[]/\At sl lh
 | fuel+1,listed,sl,lh=>(Region.ready .any ops listed=[]->At sl lh) /\
    ∀i∈Region.ready .any ops listed,EW w0 Q1 ds Ws H i (GN w0 Q1 ops ds Ws H At fuel (listed.setIfInBounds i true)) sl lh
def Er (ops:Array Oper):Nat->Nat->Nat->Bool
 |0,_,_=>false
 |f+1,j,i=>match ops[j]? with
   |some o=>o.after.toList.any λe=>Region.binds .any e&&(e.on==i||Er ops f e.on i)
   |none=>false
def tl (ds:List jd) (i j:Nat):Bool :=
 match ds[i]?,ds[j]? with
 |some x,some y=>pH x.o y.o&&(Ol x.o.op||Ol y.o.op)&&(!IB y.o.op||x.un.contains j)&&(!IB x.o.op||y.un.contains i)|_,_=>false
def su (ops:Array Oper) (ds:List jd):Bool :=
 (List.range ds.length).all λi=>(List.range ds.length).all λj=>i==j||Er ops ds.length i j||Er ops ds.length j i||tl ds i j
def AW (ops:Array Oper):Nat->Nat->Array Bool->Bool
 |0,_,listed=>(Region.ready .any ops listed).isEmpty|f+1,k,listed=>(Region.ready .any ops listed).contains k&&AW ops f (k+1) (listed.setIfInBounds k true)
def Ln (ds:List jd) (Ws:List (List Nat)):Prop:=∀(i:Nat) (d:jd),ds[i]? = some d->(IB d.o.op=false->Dl Ws i=[])/\∀k∈Dl Ws i,k∉HI Ws d.un
section
variable {P:Program} {Q1:FuncId->ca} {w0:World} {ops:Array Oper} {ds:List jd} {Ws:List (List Nat)} {H:Nat} {At:List ak->List ar->Prop}
def gC (ops:Array Oper) (listed:Array Bool):Prop:=∀k o,listed.getD k false=true->ops[k]? = some o->∀e∈o.after,Region.binds .any e=true->listed.getD e.on false=true
theorem fM {listed:Array Bool} (hc:gC ops listed) {i:Nat}:∀ (f j:Nat) (o:Oper),ops[j]? = some o->(∀ e∈o.after,Region.binds .any e=true->listed.getD e.on false=true)->Er ops f j i=true->listed.getD i false=true
 |0,_,_,_,_,h=>by simp[Er]at h
 |f+1,j,o,ho,hall,h=>by
   simp only[Er,ho,List.any_eq_true,D2,Gy,Ek]at h
   let ⟨e,he,hb,h⟩:=h
   have pB:e∈o.after:=by simpa using he
   have hl:=hall e pB hb;rcases h with rfl|h
   ·exact hl
   ·cases UX:ops[e.on]? with|none=>cases f<;>simp[Er,UX]at h|some o'=>exact fM hc f e.on o' UX (λe' pB Qx=>hc e.on o' hl UX e' pB Qx) h
theorem fS {listed:Array Bool} (hc:gC ops listed) {i:Nat} (hi:i∈Region.ready .any ops listed):gC ops (listed.setIfInBounds i true):=by
 intro k o hk ho e he hb
 let ⟨_,oi,Ts,hall⟩:=mem_ready.1 hi
 by_cases hki:i=k
 ·subst hki;rw[Ts]at ho;cases ho;exact getD_set_true (hall e he hb)
 ·exact getD_set_true (hc k o (by rwa [getD_set_ne false hki]at hk) ho e he hb)
theorem alU (TN:Ln ds Ws) {j:Nat} {x y:jd} (hy:ds[j]? = some y) (h:(!IB y.o.op||x.un.contains j)=true):∀ k∈Dl Ws j,k∈HI Ws x.un:=by
 intro k hk;cases hw:IB y.o.op with
 |true=>simp[hw]at h;exact List.mem_flatMap.2 ⟨j,h,hk⟩
 |false=>rw[(TN j y hy).1 hw]at hk;cases hk
theorem xN (hS:∀ f,(Q1 f).Ok P f) {i:Nat} {At K':List ak->List ar->Prop} (hk:∀ s l,At s l->K' s l) {sl:List ak} {lh:List ar} (h:EW w0 Q1 ds Ws H i At sl lh):EW w0 Q1 ds Ws H i K' sl lh:=by
 unfold EW at *
 split at h
 ·exact hk _ _ h
 ·exact xz hS hk h
theorem hsp (hS:∀ f,(Q1 f).Ok P f) (hw:Ln ds Ws) {i j:Nat} (hg:tl ds i j=true) {At:List ak->List ar->Prop} {sl:List ak} {lh:List ar}
 (h:EW w0 Q1 ds Ws H i (EW w0 Q1 ds Ws H j At) sl lh):EW w0 Q1 ds Ws H j (EW w0 Q1 ds Ws H i At) sl lh:=by
 unfold tl at hg;split at hg
 ·rename_i x y hx hy
  simp only[D2]at hg
  let ⟨⟨⟨g1,g2⟩,g3⟩,g4⟩:=hg
  unfold EW at h ⊢;simp only[hx,hy]at h ⊢;have s1:=alU (x:=x) hw hy g3;have s2:=alU (x:=y) hw hx g4;exact au0 hS g1 (by simpa using g2) s1 s2 (λk hk Rv=>(hw i x hx).2 k hk (s1 k Rv)) h
 ·cases hg
theorem hn2 (hS:∀ f,(Q1 f).Ok P f) (hw:Ln ds Ws) (hp:su ops ds=true) (hlen:ds.length=ops.size) {i:Nat}:∀ (fuel:Nat) (listed:Array Bool) (sl:List ak) (lh:List ar),gC ops listed->i∈Region.ready .any ops listed ->
 EW w0 Q1 ds Ws H i (GN w0 Q1 ops ds Ws H At fuel (listed.setIfInBounds i true)) sl lh->GN w0 Q1 ops ds Ws H At (fuel+1) listed sl lh:=by
 have good:∀ (listed:Array Bool) (j:Nat),gC ops listed->i∈Region.ready .any ops listed->j∈Region.ready .any ops listed->j≠i->tl ds i j=true:=λlisted j hc hi hj Rw=>by
  let ⟨ui,oi,Ts,ai⟩:=mem_ready.1 hi
  let ⟨uj,oj,VH,aj⟩:=mem_ready.1 hj
  have li:i<ds.length:=by rw[hlen];exact(Array.getElem?_eq_some_iff.1 Ts).1
  have lj:j<ds.length:=by rw[hlen];exact(Array.getElem?_eq_some_iff.1 VH).1
  simp only[su,If,List.mem_range]at hp;have:=hp i li j lj;simp only[Gy,Ek]at this;have no:∀ {x:Nat},listed.getD x true=false->listed.getD x false=true->False:=λ{x} M N=>by
   rcases Fa x listed.size with h|h
   ·simp[h]at M N;rw[M]at N;cases N
   ·simp[Ks h]at M
  rcases this with ((h|h)|h)|h
  ·exact(Rw h.symm).elim
  ·exact(no uj (fM hc _ i oi Ts ai h)).elim
  ·exact(no ui (fM hc _ j oj VH aj h)).elim
  ·exact h
 intro fuel;induction fuel with
 |zero=>
   intro listed sl lh hc hi QR;refine⟨λh=>(by rw[h]at hi;cases hi),λj hj=>?_⟩;by_cases SA:j=i
   ·subst SA;exact QR
   ·exfalso
    have hr:=ready_mono hj SA;have hnil:Region.ready .any ops (listed.setIfInBounds i true)=[]:=by
     have:EW w0 Q1 ds Ws H i (λ_ _=>Region.ready .any ops (listed.setIfInBounds i true)=[]) sl lh:=xN hS (λ_ _ h=>h.1) QR;unfold EW at this;split at this
     ·exact this
     ·exact pg hS this
    rw[hnil]at hr;cases hr
 |succ fuel ih=>
   intro listed sl lh hc hi QR;refine⟨λh=>(by rw[h]at hi;cases hi),λj hj=>?_⟩;by_cases SA:j=i
   ·subst SA;exact QR
   ·have M:EW w0 Q1 ds Ws H i (EW w0 Q1 ds Ws H j (GN w0 Q1 ops ds Ws H At fuel ((listed.setIfInBounds i true).setIfInBounds j true))) sl lh :=
     xN hS (λs l h=>h.2 j (ready_mono hj SA)) QR
    have N:=hsp hS hw (good listed j hc hi hj SA) M;refine xN hS (λs l h=>ih _ s l (fS hc hj) (ready_mono hi (Ne.symm SA)) ?_) N;rw[OO _ _ SA];exact h
def kw (w0:World) (Q1:FuncId->ca) (Ws:List (List Nat)) (H:Nat) (At:List ak->List ar->Prop):List jd->Nat->List ak->List ar->Prop
 |[],_,sl,lh=>At sl lh|d::rest,i,sl,lh=>Mv w0 Q1 (HI Ws d.un) (Dl Ws i) (d.rk.map (H+·)) d.o sl lh (kw w0 Q1 Ws H At rest (i+1))
theorem oz (hS:∀ f,(Q1 f).Ok P f) (hw:Ln ds Ws) (hp:su ops ds=true) (hlen:ds.length=ops.size):∀ (l:List jd) (k:Nat) (listed:Array Bool) (sl:List ak) (lh:List ar),(∀ j,l[j]? = ds[k+j]?) ->
 AW ops l.length k listed=true->gC ops listed->kw w0 Q1 Ws H At l k sl lh->GN w0 Q1 ops ds Ws H At l.length listed sl lh
 |[],_,_,_,_,_,hB,_,h=>⟨by simpa[AW] using hB,h⟩
 |d::l,k,listed,sl,lh,hl,hB,hc,h=>by
   have h0:ds[k]? = some d:=by simpa using(hl 0).symm
   simp[EO,AW,D2]at hB
   let ⟨hr,hB'⟩:=hB
   have Vm:k∈Region.ready .any ops listed:=by simpa using hr
   refine hn2 hS hw hp hlen l.length listed sl lh hc Vm ?_;unfold EW;simp[h0];refine xz hS (λs l' h=>?_) h;exact oz hS hw hp hlen l (k+1) _ s l' (λj=>by have:=hl (j+1);simpa[I5,Ja 1 j] using this) hB' (fS hc Vm) h
end
end Go.Sx
namespace Go.Sx
mutual
def ren (τ:Nat->Nat):ak->ak
 |.ptr (some (.l k off))=>.ptr (some (.l (τ k) off))|.slice (some (.l k off)) n c=>.slice (some (.l (τ k) off)) n c|.fn f xs ys=>.fn f (yi τ xs) (yi τ ys)|.agg cs=>.agg (yi τ cs)|.tup cs=>.tup (yi τ cs)|a=>a
def yi (τ:Nat->Nat):List ak->List ak
 |[]=>[]|a::l=>ren τ a::yi τ l
end
mutual
def l9 (p:Nat->Prop):ak->Prop
 |.ptr (some (.l k _))=>p k|.slice (some (.l k _)) _ _=>p k|.fn _ xs ys=>kq p xs/\kq p ys|.agg cs=>kq p cs|.tup cs=>kq p cs|_=>True
def kq (p:Nat->Prop):List ak->Prop
 |[]=>True|a::l=>l9 p a/\kq p l
end
mutual
theorem R48 {m m1:aN} {τ:Nat->Nat} {p:Nat->Prop} (h:∀ k b,p k->m (τ k)=some b->m1 k=some b):∀ (a:ak) (v:Value),l9 p a->C5 m (ren τ a) v->C5 m1 a v
 |.int ..,_,_,hv=>by simp[ren,C5]at hv ⊢;exact hv
 |.bool ..,_,_,hv=>by simp[ren,C5]at hv ⊢;exact hv
 |.str ..,_,_,hv=>by simp[ren,C5]at hv ⊢;exact hv
 |.ptr none,_,_,hv=>by simp[ren,C5,eg]at hv ⊢;exact hv
 |.ptr (some (.g _)),_,_,hv=>by simp[ren,C5,eg]at hv ⊢;exact hv
 |.ptr (some (.l k off)),_,hp,hv=>by
   simp[l9]at hp;simp[ren,C5,eg]at hv ⊢
   let ⟨Pw,M,b,N,h3⟩:=hv
   exact⟨Pw,M,b,h k b hp N,h3⟩
 |.slice none _ _,_,_,hv=>by simp[ren,C5,eg]at hv ⊢;exact hv
 |.slice (some (.g _)) _ _,_,_,hv=>by simp[ren,C5,eg]at hv ⊢;exact hv
 |.slice (some (.l k off)) _ _,_,hp,hv=>by
   simp[l9]at hp;simp[ren,C5,eg]at hv ⊢
   let ⟨Pw,M,b,N,h3⟩:=hv
   exact⟨Pw,M,b,h k b hp N,h3⟩
 |.fn _ xs ys,_,hp,hv=>by simp[l9]at hp;simp[ren,C5]at hv ⊢;let ⟨us,vs,M,N,h3⟩:=hv;exact⟨us,vs,M,nL h xs _ hp.1 N,nL h ys _ hp.2 h3⟩
 |.agg cs,_,hp,hv=>by simp[l9]at hp;simp[ren,C5]at hv ⊢;let ⟨vs,M,N⟩:=hv;exact⟨vs,M,nL h cs _ hp N⟩
 |.tup cs,_,hp,hv=>by simp[l9]at hp;simp[ren,C5]at hv ⊢;let ⟨vs,M,N⟩:=hv;exact⟨vs,M,nL h cs _ hp N⟩
 |.raw _,_,_,hv=>by simp[ren,C5]at hv ⊢;exact hv
 |.any,_,_,_=>by simp[C5]
theorem nL {m m1:aN} {τ:Nat->Nat} {p:Nat->Prop} (h:∀ k b,p k->m (τ k)=some b->m1 k=some b):∀ (az:List ak) (vs:List Value),kq p az->aC m (yi τ az) vs->aC m1 az vs
 |[],_,_,hv=>by simp[yi,aC]at hv ⊢;exact hv
 |a::az,_,hp,hv=>by simp[kq]at hp;simp[yi,aC]at hv ⊢;let ⟨u,us,M,N,h3⟩:=hv;exact⟨u,us,M,R48 h a u hp.1 N,nL h az us hp.2 h3⟩
end
def nq:List ak->List ak->Prop
 |[],[]=>True|a::l,a'::l'=>(a=.any∨a'=a)/\nq l l'|_,_=>False
theorem Ah {m:aN}:∀ {l l':List ak} {vs:List Value},nq l l'->aC m l' vs->aC m l vs
 |[],[],_,_,h=>h
 |a::l,a'::l',vs,hs,h=>by
   simp[nq]at hs;simp[aC]at h ⊢;obtain⟨u,us,rfl,M,N⟩:=h;refine⟨u,us,rfl,?_,Ah hs.2 N⟩;rcases hs.1 with rfl|rfl
   ·simp[C5]
   ·exact M
 |[],_::_,_,h,_=>by simp[nq]at h
 |_::_,[],_,h,_=>by simp[nq]at h
def m6 (p:Nat->Prop) (τ:Nat->Nat):List ak->List ak->Prop
 |[],[]=>True|a::l,a'::l'=>(a=.any∨(l9 p a/\a'=ren τ a))/\m6 p τ l l'|_,_=>False
theorem rL {m m1:aN} {p:Nat->Prop} {τ:Nat->Nat} (hm:∀ k b,p k->m (τ k)=some b->m1 k=some b):∀ {l l':List ak} {vs:List Value},m6 p τ l l'->aC m l' vs->aC m1 l vs
 |[],[],_,_,h=>by simp[aC]at h ⊢;exact h
 |a::l,a'::l',vs,hs,h=>by
   simp[m6]at hs;simp[aC]at h ⊢;obtain⟨u,us,rfl,M,N⟩:=h;refine⟨u,us,rfl,?_,rL hm hs.2 N⟩;rcases hs.1 with rfl|⟨h3,rfl⟩
   ·simp[C5]
   ·exact R48 hm a u h3 M
 |[],_::_,_,h,_=>by simp[m6]at h
 |_::_,[],_,h,_=>by simp[m6]at h
def isCells:Option ar->Bool
 |some (.cells ..)=>true|_=>false
def TU (nb:Nat) (lh:List ar) (k:Nat):Prop:=k<nb∨isCells lh[k]? = true
structure awM (nb:Nat) (τ:Nat->Nat) (sl:List ak) (lh:List ar) (Si:List ak) (lh1:List ar):Prop where
 fix:∀k,k<nb->τ k=k
 len:nb<=lh1.length
 same:∀k,k<nb->isCells lh1[k]? = false->lh1[k]? = lh[k]?
 slots:m6 (TU nb lh1) τ Si sl
 heap:∀k cs ty,lh1[k]? = some (.cells cs ty)->∃cs',lh[τ k]? = some (.cells cs' ty)/\m6 (TU nb lh1) τ cs cs'
 inj:∀k k',isCells lh1[k]? = true->isCells lh1[k']? = true->τ k=τ k'->k=k'
def Sub (nb:Nat) (sl:List ak) (lh:List ar) (Si:List ak) (lh1:List ar):Prop:=(lh1=lh/\nq Si sl)∨∃τ,awM nb τ sl lh Si lh1
def o5 (nb:Nat) (lh:List ar) (m:aN) (lh':List ar) (m':aN):Prop :=
 (∀k b,k < nb->m k=some b->m' k=some b)/\∀k,k < nb->lh[k]? = some .hid->lh'[k]? = some .hid/\m' k=m k
theorem o5.refl (nb:Nat) (lh:List ar) (m:aN):o5 nb lh m lh m:=⟨λ_ _ _ h=>h,λ_ _ h=>⟨h,rfl⟩⟩
theorem o5.trans {nb:Nat} {l1 l2 l3:List ar} {m1 m2 m3:aN} (h:o5 nb l1 m1 l2 m2) (k:o5 nb l2 m2 l3 m3):o5 nb l1 m1 l3 m3 :=
 ⟨λj b hj hb=>k.1 j b hj (h.1 j b hj hb),λj hj hl=>⟨(k.2 j hj (h.2 j hj hl).1).1,((k.2 j hj (h.2 j hj hl).1).2).trans (h.2 j hj hl).2⟩⟩
theorem jx.toN {lh lh':List ar} {m m':aN} (h:jx lh m lh' m') (nb:Nat):o5 nb lh m lh' m':=⟨λk b _ hb=>h.1 k b hb,λk _ hl=>h.2 k hl⟩
section
variable {B:dP}
theorem Sub.rel {nb:Nat} {m:aN} {sl Si:List ak} {lh lh1:List ar} {a:Act} {w:World} (hs:Sub nb sl lh Si lh1) (h:kl B m sl lh a w) :
 ∃m1,kl B m1 Si lh1 a w/\o5 nb lh m lh1 m1:=by
 rcases hs with ⟨rfl,hs⟩|⟨τ,hs⟩
 ·exact⟨m,⟨Ah hs h.1,h.2.1,h.2.2⟩,o5.refl _ _ _⟩
 ·let m1 : aN:=λk=>if k<nb then m k else if isCells lh1[k]? then m (τ k) else none
  have hm:∀ k b,TU nb lh1 k->m (τ k)=some b->m1 k=some b:=λk b hk hb=>by
   simp[m1];split
   ·rename_i Q7;rw[hs.fix k Q7]at hb;exact hb
   ·rename_i Q7
    rcases hk with hk|hk
    ·exact(Q7 hk).elim
    ·rw[CV hk];exact hb
  have UW:∀ k b,m1 k=some b->m (τ k)=some b:=λk b hb=>by
   simp[m1]at hb;split at hb
   ·rename_i Q7;rw[hs.fix k Q7];exact hb
   ·split at hb
    ·exact hb
    ·cases hb
  let ⟨M,N,h3⟩:=h
  refine⟨m1,⟨rL hm hs.slots M,N,⟨h3.os,h3.tape,h3.output,h3.size,h3.old,h3.fsize,h3.kept,λk cs ty hk=>?_,λk k' b cs cs' ty ty' g1 g2 hb Qx=>?_,λk hk=>?_,λk hk=>?_,λk b hk=>h3.rng _ b (UW k b hk)⟩⟩,λk b hk hb=>?_,λk hk hl=>?_⟩
  ·let ⟨cs',hl,hsub⟩:=hs.heap k cs ty hk
   let ⟨b,vs,hb,R3,hh,hx⟩:=h3.loc (τ k) cs' ty hl
   exact⟨b,vs,hm k b (.inr (by rw[hk];rfl)) hb,rL hm hsub R3,hh,hx⟩
  ·let ⟨c1,YI,_⟩:=hs.heap k cs ty g1
   let ⟨c2,s9,_⟩:=hs.heap k' cs' ty' g2
   exact hs.inj k k' (by rw[g1];rfl) (by rw[g2];rfl) (h3.inj _ _ b c1 c2 ty ty' YI s9 (UW k b hb) (UW k' b Qx))
  ·have hn:¬ k<nb:=by have:=hs.len;omega
   simp[m1];rw[C4 hn,Do hk];rfl
  ·simp [m1]
   split
   ·rename_i Q7;have:=hs.same k Q7 (by rw[hk];rfl);exact h3.dead k (by rw[← this];exact hk)
   ·rw[hk];rfl
  ·simp[m1];rw[CV hk];exact hb
  ·have hc:isCells lh1[k]? = false:=by
    cases hc:isCells lh1[k]? with
    |false=>rfl
    |true=>
      exfalso;generalize hg:lh1[k]? = g at hc;cases g with
      |none=>cases hc
      |some ob=>cases ob with
        |cells cs ty=>
          let ⟨cs',Ro,_⟩:=hs.heap k cs ty hg
          rw[hs.fix k hk,hl]at Ro;cases Ro
        |_=>cases hc
   exact⟨by rw[hs.same k hk hc];exact hl,by simp only[m1];rw[CV hk]⟩
end
def ab1:l7->Bool
 |.new ..|.box ..|.bsl ..|.app ..|.mks ..=>true|_=>false
def yG:ak->List Nat
 |.ptr (some (.l k _))=>[k]|.slice (some (.l k _)) _ _=>[k]|_=>[]
def look (xs : List ji) (rks:List (Option Nat)):Nat->Nat->gk->List Eo
 |0,_,_=>[]|_+1,_,.k _=>[]
 |f+1,n,.t s=>match (xs.take n).findIdx? (λx=>x.dst==some s) with
   |none=>[.slot s]
   |some i=>match xs[i]? with
     |none=>[]
     |some x=>match x.op with
       |.new ..|.box ..|.bsl ..|.mks ..=>(match rks.getD i none with|some r=>[.fresh r]|none=>[])|.fa _ a|.iaA _ _ a _|.iaS _ a _|.nz a|.mov a|.slS _ a ..=>look xs rks f i a|.app _ _ _ _ a _=>look xs rks f i a++(match rks.getD i none with|some r=>[.fresh r]|none=>[])
       |.ld (.t p)=>match (xs.take i).findIdx? (λx=>x.dst==some p) with
         |none=>[.load p 0]
         |some j=>match xs[j]? with
           |some y=>match y.op with|.fa off (.t Pw)=>[.load Pw off]|_=>[]
           |none=>[]
       |_=>[]
def VG (w0:World) (lh:List ar) (sl:List ak) (H:Nat):Eo->List Nat
 |.fresh r=>[H+r]|.slot s=>yG (sl.getD s .any)
 |.load s off=>match sl.getD s .any with
   |.ptr (some p)=>match ld w0 lh (p.add off) with|some v=>yG v|none=>[]
   |_=>[]
def ve (w0:World) (lh:List ar) (sl:List ak) (H:Nat):List Eo->List Nat
 |[]=>[]|x::l=>VG w0 lh sl H x++ve w0 lh sl H l
def mB (w0:World) (lh:List ar) (sl:List ak) (H:Nat):List jd->List (List Nat)
 |[]=>[]|d::l=>ve w0 lh sl H d.ws::mB w0 lh sl H l
theorem qx (w0:World) (lh:List ar) (sl:List ak) (H:Nat):∀ (l:List jd) (i:Nat),(mB w0 lh sl H l).getD i []=match l[i]? with|some d=>ve w0 lh sl H d.ws|none=>[]
 |[],i=>by simp[mB]
 |d::l,0=>by simp[mB]
 |d::l,i+1=>by simp[mB,Eu];rw[← qx w0 lh sl H l i];simp[List.getD]
def JZ (k:Nat):List Nat->Prop
 |[]=>True|x::l=>k≠x/\JZ k l
def Kd:List Nat->List Nat->Prop
 |[],_=>True|k::l,X=>JZ k X/\Kd l X
theorem AE {k:Nat}:∀ {l:List Nat},JZ k l->k∉l
 |[],_=>by simp
 |x::l,h=>by simp[JZ]at h;simp[ET,not_or];exact⟨h.1,AE h.2⟩
theorem R52:∀ {l X:List Nat},Kd l X->∀ k∈l,k∉X
 |[],_,_,k,hk=>by cases hk
 |x::l,X,h,k,hk=>by
   simp[Kd]at h;rcases List.mem_cons.1 hk with rfl|hk
   ·exact AE h.1
   ·exact R52 h.2 k hk
def EX (Ws:List (List Nat)):List jd->Nat->Prop
 |[],_=>True|d::l,i=>Kd (Dl Ws i) (HI Ws d.un)/\EX Ws l (i+1)
theorem pz {ds:List jd} {Ws:List (List Nat)}:∀ (l:List jd) (k:Nat),(∀ j,l[j]? = ds[k+j]?)->EX Ws l k->∀ (i:Nat) (d:jd),ds[k+i]? = some d->∀ x∈Dl Ws (k+i),x∉HI Ws d.un
 |[],k,hl,_,i,d,hd=>by have:=hl i;rw[hd]at this;simp at this
 |e::l,k,hl,h,i,d,hd=>by
   simp[EX]at h;cases i with
   |zero=>have h0:=hl 0;simp[GE]at hd h0 ⊢;rw[hd]at h0;simp at h0;subst h0;exact R52 h.1
   |succ i=>have:=pz l (k+1) (λj=>by have:=hl (j+1);simpa[I5,Ja 1 j] using this) h.2 i d (by rw[show k+1+i=k+(i+1) from by omega];exact hd);rw[show k+1+i=k+(i+1) from by omega]at this;exact this
def Rf (ds:List jd):Nat:=(ds.filter λd=>ab1 d.o.op).length
def ox (w0:World) (Q1:FuncId->ca) (ds:List jd) (sl:List ak) (lh:List ar) (At:List ak->List ar->Prop):Prop :=
 EX (mB w0 lh sl lh.length ds) ds 0/\kw w0 Q1 (mB w0 lh sl lh.length ds) lh.length At ds 0 sl (lh++List.replicate (Rf ds) .dead)
def cQ:List ji->Nat->List (Option Nat)
 |[],_=>[]|x::l,r=>if ab1 x.op then some r::cQ l (r+1) else none::cQ l r
def iJ (ops:Array Oper) (xs:List ji) (rks:List (Option Nat)):List ji->Nat->List jd
 |[],_=>[]
 | x::l,i=>⟨x,rks.getD i none,(List.range xs.length).filter λj=>j != i&&(match xs[j]? with|some y=>IB y.op|none=>false)&&!Er ops xs.length i j&&!Er ops xs.length j i,
    match x.op with
    |.new ..|.box ..|.bsl ..|.mks ..=>(match rks.getD i none with|some r=>[.fresh r]|none=>[])|.st _ a _=>look xs rks 8 i a|.clr _ _ a=>look xs rks 8 i a|.app _ _ _ _ a _=>look xs rks 8 i a++(match rks.getD i none with|some r=>[.fresh r]|none=>[])|_=>[]⟩::iJ ops xs rks l (i+1)
def sj (P:Program) (Bs:List TypeId) (ops:Array Oper):Option (List jd) :=
 match fP P Bs ops ops.toList with
 |none=>none
 |some xs=>
   if P.follows .mixedOrders&&su ops (iJ ops xs (cQ xs 0) xs 0)&&AW ops (iJ ops xs (cQ xs 0) xs 0).length 0 (Array.replicate ops.size false)&&(iJ ops xs (cQ xs 0) xs 0).length==ops.size &&
    (iJ ops xs (cQ xs 0) xs 0).all (λd=>IB d.o.op||d.ws.isEmpty) then some (iJ ops xs (cQ xs 0) xs 0) else none
theorem yT (ops:Array Oper) (xs:List ji) (rks:List (Option Nat)):∀ (l:List ji) (i j:Nat),(iJ ops xs rks l i)[j]?.map jd.o=l[j]?
 |[],_,_=>by simp[iJ]
 |x::l,i,0=>by simp[iJ]
 |x::l,i,j+1=>by simp[iJ,Eu];exact yT ops xs rks l _ j
section
variable {P:Program} {B:dP} {Q1:FuncId->ca} {Bs:List TypeId} {F:Fence} {n:Nat} {ops:Array Oper} {ds:List jd} {Ws:List (List Nat)}
theorem ms:∀ (l:List Oper) (xs:List ji) (j:Nat) (o:Oper),fP P Bs ops l=some xs->l[j]? = some o->∃ x,xs[j]? = some x/\lU P Bs ops o=some x
 |[],_,_,_,_,h=>by simp at h
 |a::l,xs,j,o,hc,h=>by
   simp[fP]at hc;split at hc
   ·rename_i x xs' hx T2
    cases hc;cases j with
    |zero=>simp at h;subst h;exact⟨x,rfl,hx⟩|succ j=>exact ms l xs' j o T2 (by simpa using h)
   ·cases hc
theorem AB (hF:lD F) (hS:∀ f,(Q1 f).Ok P f) (hE:∀ t∈Bs,dM P t) {X QW:List Nat} {pl:Option Nat} {o:Oper} {x:ji} {i:Nat} (ho:ops[i]? = some o) (hx:lU P Bs ops o=some x)
 {At:List ak->List ar->Prop} {K':Act->World->Prop} {Q2:Exit->Act->World->Prop} {sl:List ak} {lh:List ar} {m:aN} {a:Act} {w:World} (hs:kl B m sl lh a w) (h:Mv B.w0 Q1 X QW pl x sl lh At)
 (hK:∀sl' lh' m' a' w',kl B m' sl' lh' a' w'->jx lh m lh' m'->At sl' lh'->K' a' w'):wpOpIn F n P ops Q2 i K' a w:=by
 have hSS:∀f,(Q1 f).Sound P f:=λf=>(hS f).sound
 have run:∀ {j:l7} (hj:jw P Bs o=some j),x.op=j->x.dst=o.dst->dK B.w0 Q1 sl (hide X lh) pl (λv l=>kT QW l (hide X lh)/\At (kA x sl (.run v l)) (lS QW lh (.run v l))) j ->
  o.wpIn F n P a w K' Q2:=λ{j} hj e1 e2 hv=>by
  have hres:=qo (B:=⟨B.w0,w,λb=>∃k cs ty,k∉X/\lh[k]? = some (.cells cs ty)/\m k=some b,B.ds⟩) hSS hE hj hs.1 (hs.2.2.hide X) hv;refine jU hF hj hres λv w' ⟨r,m',lh',M,N,h3,h4,h5⟩=>?_
  let ⟨g1,g2⟩:=hs.2.2.unhide h3 N h4
  simp[kA,e2]at h5;exact hK _ _ m' _ _ (hs.put g2.1 g1 o.dst M) g2 h5
 have skip:∀(e2:x.dst=o.dst),At (kA x sl .skip) lh->K' (a.put o.dst undef) w:=λe2 hk=>by simp[kA,e2]at hk;exact hK _ _ m _ _ (hs.put (aN.le_refl m) hs.2.2 o.dst (by simp[C5,aC,undef])) (jx.refl _ _) hk
 unfold wpOpIn;simp[ho];unfold Mv pY at h;unfold lU at hx;split at hx
 ·rename_i j hj hg;cases hx;dsimp only at h;rw[CV (by simp[Region.wanted,hg])];exact run hj rfl rfl h
 ·rename_i j nza14 want hj hg
  split at hx
  ·rename_i d hd
   cases hx;dsimp only at h
   let ⟨y1,y2,y3⟩:=sc (ops:=ops) hs.1 hd
   split at h
   ·rename_i b hb
    have hy:=y1 b hb;by_cases WI:b=want
    ·subst WI;rw[CV (by simp[Region.wanted,hg,hy])];exact run hj rfl rfl (h.1 rfl)
    ·rw[C4 (by simp[Region.wanted,hg,hy,WI])];exact⟨λf _=>hF.fn f,skip rfl (h.2 (by cases b<;>cases want<;>simp_all))⟩
   ·rename_i vs hb;rw[C4 (by simp[Region.wanted,hg,y2 _ hb])];exact⟨λf _=>hF.fn f,skip rfl h⟩
   ·rename_i hb;rw[C4 (by simp[Region.wanted,hg,y3 _ _ hb])];exact⟨λf _=>hF.fn f,skip rfl h⟩
   ·exact h.elim
  ·cases hx
 ·cases hx
theorem hk' (hF:lD F) (hS:∀ f,(Q1 f).Ok P f) (hE:∀ t∈Bs,dM P t) {H:Nat} {xs:List ji} (hc:fP P Bs ops ops.toList=some xs) (hd:∀ j:Nat,ds[j]?.map jd.o=xs[j]?)
 {At:List ak->List ar->Prop} {Q2:Exit->Act->World->Prop} {lh0:List ar} {m0:aN} (hQ:∀sl' lh' m' a' w',kl B m' sl' lh' a' w'->jx lh0 m0 lh' m'->At sl' lh'->Q2 .normal a' w') :
 ∀(fuel:Nat) (listed:Array Bool) (sl:List ak) (lh:List ar) (m:aN) (a:Act) (w:World),kl B m sl lh a w->jx lh0 m0 lh m->GN B.w0 Q1 ops ds Ws H At fuel listed sl lh->wpAnyIn F n P .any ops Q2 fuel listed a w
 |0,_,_,_,_,_,_,hs,he,h=>⟨h.1,hQ _ _ _ _ _ hs he h.2⟩
 |fuel+1,listed,sl,lh,m,a,w,hs,he,h=>by
   refine⟨λhr=>hQ _ _ _ _ _ hs he (h.1 hr),λi hi=>?_⟩;have N:=h.2 i hi
   let ⟨_,o,ho,_⟩:=mem_ready.1 hi
   let ⟨x,hx,Uu⟩:=ms ops.toList xs i o hc (by simpa using ho)
   have SH:=hd i;rw[hx]at SH;simp[DZ]at SH
   let ⟨d,Tp,Tq⟩:=SH
   unfold EW at N;simp[Tp]at N;rw[Tq]at N;exact AB hF hS hE ho Uu hs N λsl' lh' m' a' w' h3 h4 h5=>hk' hF hS hE hc hd hQ fuel _ sl' lh' m' a' w' h3 (he.trans h4) h5
theorem bh.deads {m:aN} {lh:List ar} {w:World} (h:bh B m lh w) (k:Nat):bh B m (lh++List.replicate k .dead) w:=by
 have hg:∀ j o,(lh++List.replicate k ar.dead)[j]? = some o->lh[j]? = some o∨(lh.length<=j/\o=.dead):=λj o hj=>by
  rw[Ei]at hj;split at hj
  ·exact .inl hj
  ·rename_i Q7
   right;rw[List.getElem?_replicate]at hj;split at hj
   ·cases hj;exact⟨K,rfl⟩
   ·cases hj
 refine⟨h.os,h.tape,h.output,h.size,h.old,h.fsize,h.kept,λj cs ty hj=>?_,λj j' b cs cs' ty ty' M N hb Qx=>?_,λj hj=>h.dom j (by simp at hj;omega),λj hj=>?_,h.rng⟩
 ·rcases hg j _ hj with hl|⟨_,e⟩
  ·exact h.loc j cs ty hl
  ·cases e
 ·rcases hg j _ M with hl|⟨_,e⟩
  ·rcases hg j' _ N with Ro|⟨_,e⟩
   ·exact h.inj j j' b cs cs' ty ty' hl Ro hb Qx
   ·cases e
  ·cases e
 ·rcases hg j _ hj with hl|⟨R8,_⟩
  ·exact h.dead j hl
  ·exact h.dom j R8
theorem hfr (hF:lD F) (hS:∀ f,(Q1 f).Ok P f) (hE:∀ t∈Bs,dM P t) {id:Nat} (hc:sj P Bs ops=some ds) {At:List ak->List ar->Prop} {Q2:Exit->Act->World->Prop} {sl:List ak} {lh:List ar} {m:aN} {a:Act} {w:World}
 (hs:kl B m sl lh a w) (h:ox B.w0 Q1 ds sl lh At) (hQ:∀sl' lh' m' a' w',kl B m' sl' lh' a' w'->jx lh m lh' m'->At sl' lh'->Q2 .normal a' w'):(Code.region id ops true).wpIn F n P Q2 a w:=by
 unfold sj at hc;split at hc
 ·cases hc
 ·rename_i xs T2
  split at hc
  ·rename_i hcond
   cases hc;simp only[D2,Ek]at hcond
   let ⟨⟨⟨⟨M,N⟩,h3⟩,h4⟩,h5⟩:=hcond
   let ⟨hw,ht⟩:=h
   have U7:Ln (iJ ops xs (cQ xs 0) xs 0) (mB B.w0 lh sl lh.length (iJ ops xs (cQ xs 0) xs 0)):=λi d hd=>by
    refine⟨λYM=>?_,?_⟩
    ·unfold Dl;rw[qx,hd];have:=List.all_eq_true.1 h5 d (JG hd);simp[YM]at this;simp[this,ve]
    ·have:=pz (ds:=iJ ops xs (cQ xs 0) xs 0) (iJ ops xs (cQ xs 0) xs 0) 0 (λj=>by simp) hw i d (by simpa using hd);simpa using this
   generalize mB B.w0 lh sl lh.length (iJ ops xs (cQ xs 0) xs 0)=Ws at hw ht U7;refine wpIn_region_any M ?_;have Ri:gC ops (Array.replicate ops.size false):=λk o hk=>by simp[Jz]at hk;split at hk<;>simp at hk
   have hany:=oz hS U7 N h4 (iJ ops xs (cQ xs 0) xs 0) 0 _ sl _ (λj=>by simp) h3 Ri ht;rw[← h4];have hext:jx lh m (lh++List.replicate (Rf (iJ ops xs (cQ xs 0) xs 0)) .dead) m:=⟨aN.le_refl m,λk hk=>⟨by rw[DW (List.getElem?_eq_some_iff.1 hk).1];exact hk,rfl⟩⟩;rw[h4]at hany ⊢;exact hk' hF hS hE T2 (yT ops xs (cQ xs 0) xs 0) hQ _ _ sl _ m a _ ⟨hs.1,hs.2.1,(hs.2.2.deads _).drew _⟩ hext hany
  ·cases hc
end
end Go.Sx
namespace Go.Sx
inductive OT where|done|op (o:ji) (r:OT)|alt (a b:OT)
def qS (w0:World) (Q1:FuncId->ca):OT->List ak->List ar->(List ak->List ar->Prop)->Prop
 |.done,sl,lh,At=>At sl lh|.op o r,sl,lh,At=>fF w0 Q1 [o] sl lh λsl lh=>qS w0 Q1 r sl lh At
 |.alt a b,sl,lh,At=>qS w0 Q1 a sl lh At/\qS w0 Q1 b sl lh At
def r9:l7->Bool
 |.mov _|.fa ..|.len _|.fld ..|.iaS ..|.ext ..=>true|_=>false
def pv (sl:List ak):l7->Option ak
 |.mov x=>some (arg sl x)
 |.fa off x=>match arg sl x with|.ptr (some p)=>some (.ptr (some (p.add off)))|_=>none
 |.len x=>match arg sl x with|.slice _ n _=>some (.int .i64 n)|_=>none
 |.fld off n x=>match arg sl x with
   |.agg cs=>(match n with|some n=>some (.agg ((cs.drop off).take n))|none=>cs[off]?)
   |_=>none
 |.iaS esz x ix=>match arg sl x,arg sl ix with
   |.slice (some Pw) n _,.int _ i=>if 0<=i/\i<n then some (.ptr (some (Pw.add (i.toNat*esz)))) else none
   |_,_=>none
 |.ext x i=>match arg sl x with|.tup vs=>vs[i]?|_=>none
 |_=>none
section
variable {w0:World} {Q1:FuncId->ca} {sl sl':List ak} {lh:List ar} {P:Program}
theorem Bw {op:l7} {At:ak->List ar->Prop} (h:r9 op=true):dK w0 Q1 sl lh none At op↔∃ v,pv sl op=some v/\At v lh:=by
 cases op<;>simp only[r9,Ee]at h<;>simp only[dK,pv]
 case mov x=>exact⟨λh=>⟨_,rfl,h⟩,λ⟨_,e,h⟩=>by cases e;exact h⟩
 case fa off x=>
  generalize arg sl x=y
  match y with
  |.ptr (some p)=>exact⟨λh=>⟨_,rfl,h⟩,λ⟨_,e,h⟩=>by cases e;exact h⟩|.ptr none|.int ..|.bool _|.str _|.slice ..|.fn ..|.agg _|.tup _|.raw _|.any=>exact⟨λh=>h.elim,λ⟨_,e,_⟩=>by cases e⟩
 case len x=>
  generalize arg sl x=y
  match y with
  |.slice ..=>exact⟨λh=>⟨_,rfl,h⟩,λ⟨_,e,h⟩=>by cases e;exact h⟩|.ptr _|.int ..|.bool _|.str _|.fn ..|.agg _|.tup _|.raw _|.any=>exact⟨λh=>h.elim,λ⟨_,e,_⟩=>by cases e⟩
 case fld off n x=>
  generalize arg sl x=y
  match y,n with
  |.agg cs,some n=>exact⟨λh=>⟨_,rfl,h⟩,λ⟨_,e,h⟩=>by cases e;exact h⟩|.agg cs,none=>exact Iff.rfl|.ptr _,_|.int ..,_|.bool _,_|.str _,_|.slice ..,_|.fn ..,_|.tup _,_|.raw _,_|.any,_=>exact⟨λh=>h.elim,λ⟨_,e,_⟩=>by cases e⟩
 case iaS esz x ix=>
  generalize arg sl x=y;generalize arg sl ix=z
  match y,z with
  |.slice (some Pw) n _,.int _ i=>
    dsimp only
    constructor
    ·rintro⟨M,N,q',e,h3⟩;cases e;exact⟨_,CV ⟨M,N⟩,h3⟩
    ·rintro⟨v,e,h3⟩
     split at e
     ·rename_i h;cases e;exact⟨h.1,h.2,Pw,rfl,h3⟩
     ·cases e
  |.slice none _ _,.int _ _=>exact⟨λ⟨_,_,_,e,_⟩=>(by cases e),λ⟨_,e,_⟩=>(by cases e)⟩|.slice ..,.ptr _|.slice ..,.bool _|.slice ..,.str _|.slice ..,.slice ..|.slice ..,.fn ..|.slice ..,.agg _|.slice ..,.tup _|.slice ..,.raw _|.slice ..,.any=>exact⟨λh=>h.elim,λ⟨_,e,_⟩=>by split at e<;>simp_all⟩|.ptr _,_|.int ..,_|.bool _,_|.str _,_|.agg _,_|.fn ..,_|.tup _,_|.raw _,_|.any,_=>exact⟨λh=>h.elim,λ⟨_,e,_⟩=>by cases e⟩
 case ext x i=>
  generalize arg sl x=y
  match y with
  |.tup vs=>exact Iff.rfl|.ptr _|.int ..|.bool _|.str _|.slice ..|.fn ..|.agg _|.raw _|.any=>exact⟨λh=>h.elim,λ⟨_,e,_⟩=>by cases e⟩
theorem yax {op:l7} (h:∀ x∈op.args,arg sl x=arg sl' x):pv sl op=pv sl' op:=by
 cases op<;>simp[l7.args,ET,I4,or_false,Kv,forall_eq]at h<;>simp[pv]
 all_goals first
  |rw[h]|rw[h.1,h.2]
end
def GK (g:Nat->Option OT):List Nat->Option OT
 |[]=>some .done|[i]=>g i
 |i::j::l=>match g i,GK g (j::l) with|some a,some b=>some (.alt a b)|_,_=>none
def hcM (xs:List ji) (i:Nat):Bool:=match xs[i]? with|some x=>r9 x.op|none=>false
def Lx (ops:Array Oper) (xs:List ji):Nat->Array Bool->Option OT
 |0,listed=>if(Region.ready .any ops listed).isEmpty then some .done else none
 |f+1,listed=>match (Region.ready .any ops listed).find? (hcM xs) with
   |some j=>match xs[j]?,Lx ops xs f (listed.setIfInBounds j true) with|some x,some t=>some (.op x t)|_,_=>none
   |none=>GK (λi=>match xs[i]?,Lx ops xs f (listed.setIfInBounds i true) with|some x,some t=>some (.op x t)|_,_=>none) (Region.ready .any ops listed)
def qi (ops:Array Oper) (xs:List ji):Bool :=
 (List.range xs.length).all λi=>(List.range xs.length).all λj=>i==j||Er ops xs.length i j||Er ops xs.length j i||(match xs[i]?,xs[j]? with
    |some x,some y=>!r9 x.op||pH x y
    |_,_=>false)
def yao (xs:List ji):Bool:=xs.any λx=>match x.op with
 |.len (.t d)=>xs.any λy=>y.dst==some d&&match y.op with|.call ..=>true|_=>false
 |_=>false
def Ci (P:Program) (Bs:List TypeId) (ops:Array Oper):Option OT :=
 match fP P Bs ops ops.toList with
 |none=>none|some xs=>if P.follows .mixedOrders&&(xs.all (λx=>x.guard.isNone)&&(yao xs&&(qi ops xs&&xs.length==ops.size))) then Lx ops xs ops.size (Array.replicate ops.size false) else none
section
variable {P:Program} {Q1:FuncId->ca} {w0:World} {ops:Array Oper} {xs:List ji} {At:List ak->List ar->Prop}
def BB (w0:World) (Q1:FuncId->ca) (ops:Array Oper) (xs:List ji) (At:List ak->List ar->Prop):Nat->Array Bool->List ak->List ar->Prop
 |0,listed,sl,lh=>Region.ready .any ops listed=[]/\At sl lh
 | fuel+1,listed,sl,lh=>(Region.ready .any ops listed=[]->At sl lh) /\
    ∀i∈Region.ready .any ops listed,∀x,xs[i]? = some x->dK w0 Q1 sl lh none (λv l=>BB w0 Q1 ops xs At fuel (listed.setIfInBounds i true) (fk sl x.dst v) l) x.op
theorem hst {x:gk} {d:Option Nat} {sl:List ak} {v:ak} (h:∀ t,d=some t->t∉sI [x]):arg (fk sl d v) x=arg sl x:=by
 cases x with
 |k a=>rfl
 |t i=>simp[arg];exact As λe=>h i e (by simp[sI])
theorem qq {x:ji} {d:Option Nat} {sl:List ak} {v:ak} (h:∀ t,d=some t->t∉x.reads):∀ y∈x.op.args,arg (fk sl d v) y=arg sl y:=λy hy=>hst λt ht hm=>h t ht (by
 cases y with
 |k a=>simp[sI]at hm
 |t i=>simp[sI]at hm;subst hm;exact K2 _ (List.mem_filterMap.2 ⟨_,hy,rfl⟩))
theorem hmn (hS:∀ f,(Q1 f).Ok P f) (hp:qi ops xs=true) (hlen:xs.length=ops.size) {i:Nat} {x:ji} (hx:xs[i]? = some x) (Vl:r9 x.op=true):∀ (fuel:Nat) (listed:Array Bool) (sl:List ak) (lh:List ar),gC ops listed->i∈Region.ready .any ops listed ->
 dK w0 Q1 sl lh none (λv l=>BB w0 Q1 ops xs At fuel (listed.setIfInBounds i true) (fk sl x.dst v) l) x.op->BB w0 Q1 ops xs At (fuel+1) listed sl lh:=by
 have good:∀ (listed:Array Bool) (j:Nat) (y:ji),gC ops listed->i∈Region.ready .any ops listed->j∈Region.ready .any ops listed->j≠i->xs[j]? = some y->pH x y=true:=λlisted j y hc hi hj Rw hy=>by
  let ⟨ui,oi,Ts,ai⟩:=mem_ready.1 hi
  let ⟨uj,oj,VH,aj⟩:=mem_ready.1 hj
  have li:i<xs.length:=by rw[hlen];exact(Array.getElem?_eq_some_iff.1 Ts).1
  have lj:j<xs.length:=by rw[hlen];exact(Array.getElem?_eq_some_iff.1 VH).1
  simp[qi,If,List.mem_range]at hp;have:=hp i li j lj;simp[Gy,Ek,hx,hy,Vl]at this;have no:∀ {x:Nat},listed.getD x true=false->listed.getD x false=true->False:=λ{x} M N=>by
   rcases Fa x listed.size with h|h
   ·simp[h]at M N;rw[M]at N;cases N
   ·simp[Ks h]at M
  rcases this with ((h|h)|h)|h
  ·exact(Rw h.symm).elim
  ·exact(no uj (fM hc _ i oi Ts ai h)).elim
  ·exact(no ui (fM hc _ j oj VH aj h)).elim
  ·simpa using h
 intro fuel;induction fuel with
 |zero=>
   intro listed sl lh hc hi QR;refine⟨λh=>(by rw[h]at hi;cases hi),λj hj y hy=>?_⟩;by_cases SA:j=i
   ·subst SA;rw[hx]at hy;cases hy;exact QR
   ·exfalso
    have hr:=ready_mono hj SA
    let ⟨v,_,QR⟩:=(Bw Vl).1 QR
    have hnil:=QR.1;rw[hnil]at hr;cases hr
 |succ fuel ih=>
   intro listed sl lh hc hi QR;refine⟨λh=>(by rw[h]at hi;cases hi),λj hj y hy=>?_⟩;by_cases SA:j=i
   ·subst SA;rw[hx]at hy;cases hy;exact QR
   ·let ⟨v,hv,QR⟩:=(Bw Vl).1 QR
    let ⟨a1,a2,a3⟩:=pU (good listed j y hc hi hj SA hy)
    have M:=QR.2 j (ready_mono hj SA) y hy;rw[qf (sl':=sl) (qq (λt ht=>a1 t ht))]at M;refine dX hS (λu l h=>?_) M;refine ih _ _ l (fS hc hj) (ready_mono hi (Ne.symm SA)) ?_;rw[Bw Vl];refine⟨v,?_,?_⟩
    ·rw[yax (sl':=sl) (qq (λt ht=>a3 t ht))];exact hv
    ·rw[OO _ _ SA,Pg (d:=y.dst) (d':=x.dst) (λk hk Rv=>a2 k Rv hk)];exact h
theorem zw {g:Nat->Option OT} {sl:List ak} {lh:List ar}:∀ {l:List Nat} {t:OT},GK g l=some t->qS w0 Q1 t sl lh At->∀ i∈l,∃ u,g i=some u/\qS w0 Q1 u sl lh At
 |[],_,_,_,i,hi=>by cases hi
 |[j],t,h,hv,i,hi=>by simp at hi;subst hi;exact⟨t,h,hv⟩
 |j::k::l,t,h,hv,i,hi=>by
   simp[GK]at h;split at h
   ·rename_i a b ha hb
    cases h;rcases List.mem_cons.1 hi with rfl|hi
    ·exact⟨a,ha,hv.1⟩
    ·exact zw hb hv.2 i hi
   ·cases h
theorem CE (hS:∀ f,(Q1 f).Ok P f) (hp:qi ops xs=true) (hg:xs.all (λx=>x.guard.isNone)=true) (hlen:xs.length=ops.size):∀ (fuel:Nat) (listed:Array Bool) (sl:List ak) (lh:List ar) (t:OT),gC ops listed->Lx ops xs fuel listed=some t->qS w0 Q1 t sl lh At->BB w0 Q1 ops xs At fuel listed sl lh
 |0,listed,sl,lh,t,hc,ht,hv=>by
   simp only[Lx]at ht;split at ht
   ·rename_i he;cases ht;exact⟨by simpa using he,hv⟩
   ·cases ht
 |fuel+1,listed,sl,lh,t,hc,ht,hv=>by
   have one:∀ (x:ji) (j:Nat),xs[j]? = some x->∀ {At:List ak->List ar->Prop},fF w0 Q1 [x] sl lh At->dK w0 Q1 sl lh none (λv l=>At (fk sl x.dst v) l) x.op:=λx j hx At h=>by
    have Y8:x.guard=none:=by have:=List.all_eq_true.1 hg x (JG hx);simpa using this
    simp[fF,Y8]at h;exact h
   simp[Lx]at ht;split at ht
   ·rename_i j hj
    split at ht
    ·rename_i x u hx hu
     cases ht;have YF:=List.mem_of_find?_eq_some hj;have rm:r9 x.op=true:=by have:=List.find?_some hj;simpa[hcM,hx] using this
     refine hmn hS hp hlen hx rm fuel listed sl lh hc YF ?_;exact dX hS (λv l h=>CE hS hp hg hlen fuel _ _ l u (fS hc YF) hu h) (one x j hx hv)
    ·cases ht
   ·rename_i hnone
    refine⟨λhr=>?_,λi hi x hx=>?_⟩
    ·rw[hr]at ht;simp[GK,DJ]at ht;subst ht;exact hv
    ·let ⟨u,hu,u5⟩:=zw ht hv i hi
     rw[hx]at hu;split at hu
     ·rename_i x' r e1 hr;cases e1;cases hu;exact dX hS (λv l h=>CE hS hp hg hlen fuel _ _ l r (fS hc hi) hr h) (one x i hx u5)
     ·cases hu
end
section
variable {P:Program} {Q1:FuncId->ca} {Bs:List TypeId} {B:dP} {F:Fence} {n:Nat} {ops:Array Oper}
theorem se (hF:lD F) (hS:∀ f,(Q1 f).Ok P f) (hE:∀ t∈Bs,dM P t) {xs:List ji} (hc:fP P Bs ops ops.toList=some xs) (hg:xs.all (λx=>x.guard.isNone)=true)
 {At:List ak->List ar->Prop} {Q2:Exit->Act->World->Prop} {lh0:List ar} {m0:aN} (hQ:∀sl' lh' m' a' w',kl B m' sl' lh' a' w'->jx lh0 m0 lh' m'->At sl' lh'->Q2 .normal a' w') :
 ∀(fuel:Nat) (listed:Array Bool) (sl:List ak) (lh:List ar) (m:aN) (a:Act) (w:World),kl B m sl lh a w->jx lh0 m0 lh m->BB B.w0 Q1 ops xs At fuel listed sl lh->wpAnyIn F n P .any ops Q2 fuel listed a w
 |0,_,_,_,_,_,_,hs,he,h=>⟨h.1,hQ _ _ _ _ _ hs he h.2⟩
 |fuel+1,listed,sl,lh,m,a,w,hs,he,h=>by
   have hSS:∀f,(Q1 f).Sound P f:=λf=>(hS f).sound;refine⟨λhr=>hQ _ _ _ _ _ hs he (h.1 hr),λi hi=>?_⟩
   let ⟨_,o,ho,_⟩:=mem_ready.1 hi
   let ⟨x,hx,Uu⟩:=ms ops.toList xs i o hc (by simpa using ho)
   have N:=h.2 i hi x hx;have Y8:x.guard=none:=by have:=List.all_eq_true.1 hg x (JG hx);simpa using this
   unfold wpOpIn;simp[ho];unfold lU at Uu;split at Uu
   ·rename_i j hj io17;cases Uu;rw[CV (by simp[Region.wanted,io17])];refine jU hF hj (qo hSS hE hj hs.1 hs.2.2 N) λv w' ⟨r,m',lh',h3,h4,h5,h6⟩=>?_;exact se hF hS hE hc hg hQ fuel _ _ _ m' _ _ (hs.put h4.1 h5 o.dst h3) (he.trans h4) h6
   ·split at Uu
    ·cases Uu;cases Y8
    ·cases Uu
   ·cases Uu
theorem hnd (hF:lD F) (hS:∀ f,(Q1 f).Ok P f) (hE:∀ t∈Bs,dM P t) {id:Nat} {t:OT} (hc:Ci P Bs ops=some t) {At:List ak->List ar->Prop} {Q2:Exit->Act->World->Prop} {sl:List ak} {lh:List ar} {m:aN} {a:Act} {w:World}
 (hs:kl B m sl lh a w) (h:qS B.w0 Q1 t sl lh At) (hQ:∀sl' lh' m' a' w',kl B m' sl' lh' a' w'->jx lh m lh' m'->At sl' lh'->Q2 .normal a' w'):(Code.region id ops true).wpIn F n P Q2 a w:=by
 unfold Ci at hc;split at hc
 ·cases hc
 ·rename_i xs T2
  split at hc
  ·rename_i hcond
   simp only[D2,Ek]at hcond
   let ⟨M,N,_,h4,h5⟩:=hcond
   refine wpIn_region_any M ?_;have Ri:gC ops (Array.replicate ops.size false):=λk o hk=>by simp[Jz]at hk;split at hk<;>simp at hk
   have hall:=CE hS h4 N h5 ops.size _ sl lh t Ri hc h;exact se hF hS hE T2 N hQ _ _ sl lh m a _ ⟨hs.1,hs.2.1,hs.2.2.drew _⟩ (jx.refl _ _) hall
  ·cases hc
end
end Go.Sx
namespace Go.Sx
def zA (Q1:FuncId->ca):FuncId->ca:=λf w0 args lh At=>Q1 f w0 args lh λv l=>(∃t,l=lh++t)/\At v l
theorem r7 {P:Program} {Q1:FuncId->ca} (hS:∀ f,(Q1 f).Ok P f):∀ f,(zA Q1 f).Ok P f:=λf=>
 ⟨λB m lh w args vs At M N h3=>(hS f).sound B m lh w args vs At M N ((hS f).mono _ _ _ _ _ (λ_ _ h=>h.2) h3),
  λw0 args lh At K' hk h=>(hS f).mono _ _ _ _ _ (λr l h=>⟨h.1,hk _ _ h.2⟩) h,
  λw0 args lh Q2 h=>(hS f).strict _ _ _ _ ((hS f).mono _ _ _ _ _ (λ_ _ h=>h.2) h)⟩
def SF:l7->Bool
 |.st ..|.app ..|.clr ..|.bsl ..=>false|_=>true
def Xo:l7->Bool
 |.ld _|.lds ..=>true|_=>false
def OG (op:l7):Bool:=Xo op||r9 op
def pm (w0:World) (lh:List ar) (sl:List ak):l7->Option ak
 |.ld x=>match arg sl x with|.ptr (some p)=>ld w0 lh p|_=>none
 |.lds n x=>match arg sl x with|.ptr (some p)=>(lds w0 lh p n).map .agg|_=>none
 |op=>pv sl op
section
variable {w0:World} {Q1:FuncId->ca} {sl sl':List ak} {lh:List ar} {P:Program}
theorem GI {op:l7} {At:ak->List ar->Prop} (h:OG op=true):dK w0 Q1 sl lh none At op↔∃ v,pm w0 lh sl op=some v/\At v lh:=by
 cases op
 case ld x=>
  simp[dK,pm];generalize arg sl x=y
  match y with
  |.ptr (some p)=>exact Iff.rfl|.ptr none|.int ..|.bool _|.str _|.slice ..|.fn ..|.agg _|.tup _|.raw _|.any=>exact⟨λh=>h.elim,λ⟨_,e,_⟩=>by cases e⟩
 case lds n x=>
  simp[dK,pm];generalize arg sl x=y
  match y with
  |.ptr (some p)=>
    constructor
    ·rintro⟨cs,e,h⟩;exact⟨_,by show Option.map ak.agg (lds w0 lh p n)=_;rw[e];rfl,h⟩
    ·rintro⟨v,e,h⟩
     dsimp only at e;cases hl:lds w0 lh p n with
     |none=>rw[hl]at e;cases e|some cs=>rw[hl]at e;cases e;exact⟨cs,hl,h⟩
  |.ptr none|.int ..|.bool _|.str _|.slice ..|.fn ..|.agg _|.tup _|.raw _|.any=>exact⟨λh=>h.elim,λ⟨_,e,_⟩=>by cases e⟩
 all_goals first
  |(cases h;done)|exact Bw (Q1:=Q1) h
theorem hrc {op:l7} (h:∀ x∈op.args,arg sl x=arg sl' x):pm w0 lh sl op=pm w0 lh sl' op:=by
 cases op
 case ld x=>simp[l7.args,ET,I4,or_false,forall_eq]at h;simp[pm];rw[h]
 case lds n x=>simp[l7.args,ET,I4,or_false,forall_eq]at h;simp[pm];rw[h]
 all_goals exact yax h
theorem sl1 {op:l7} {l:List ar} (h:Xo op=false):pm w0 l sl op=pm w0 lh sl op:=by cases op<;>first|rfl|cases h
theorem R86 {t:List ar} {k:Nat} {o:ar} (h:lh[k]? = some o):(lh++t)[k]? = some o:=by rw[DW (List.getElem?_eq_some_iff.1 h).1];exact h
theorem ih5 {t:List ar} {p:jh} {v:ak} (h:ld w0 lh p=some v):ld w0 (lh++t) p=some v:=by
 cases p with
 |l k off=>
   simp[ld]at h ⊢;split at h
   ·rename_i cs ty hk;rw[R86 hk];exact h
   ·cases h
 |g a=>exact h
theorem ia2 {t:List ar} {p:jh} {n:Nat} {v:List ak} (h:lds w0 lh p n=some v):lds w0 (lh++t) p n=some v:=by
 cases p with
 |l k off=>
   simp[lds]at h ⊢;split at h
   ·rename_i cs ty hk;rw[R86 hk];exact h
   ·cases h
 |g a=>exact h
theorem smT {op:l7} {t:List ar} {v:ak} (h:pm w0 lh sl op=some v):pm w0 (lh++t) sl op=some v:=by
 cases op
 case ld x=>
  simp[pm]at h ⊢;split at h
  ·exact ih5 h
  ·cases h
 case lds n x=>
  simp[pm]at h ⊢;split at h
  ·rename_i p _
   cases hl:lds w0 lh p n with
   |none=>rw[hl]at h;cases h|some cs=>rw[hl]at h;rw[ia2 hl];exact h
  ·cases h
 all_goals exact h
theorem hze (hS:∀ f,(Q1 f).Ok P f) {op:l7} {At:ak->List ar->Prop} (hg:SF op=true) (h:dK w0 (zA Q1) sl lh none At op):dK w0 (zA Q1) sl lh none (λv l=>(∃ t,l=lh++t)/\At v l) op:=by
 have hP:=r7 hS;have h0:∃t,lh=lh++t:=⟨[],au⟩;have at0:∀{op:l7},(∀At:ak->List ar->Prop,dK w0 (zA Q1) sl lh none At op=dK w0 (zA Q1) sl lh none (λv _=>At v lh) op)->dK w0 (zA Q1) sl lh none At op->dK w0 (zA Q1) sl lh none (λv l=>(∃t,l=lh++t)/\At v l) op:=λe h=>by rw[e]at h ⊢;exact dX hP (λv l hk=>⟨h0,hk⟩) h
 cases op
 case new ty z=>exact⟨⟨_,rfl⟩,h⟩
 case box ty x=>exact⟨h.1,⟨_,rfl⟩,h.2⟩
 case mks ty n cs=>exact⟨⟨_,rfl⟩,h⟩
 case call f xs=>simp only[dK,zA]at h ⊢;exact(hS f).mono _ _ _ _ _ (λv l hk=>⟨hk.1,hk⟩) h
 case callv x xs=>
  simp only[dK,zA]at h ⊢;split at h
  ·exact(hS _).mono _ _ _ _ _ (λv l hk=>⟨hk.1,hk⟩) h
  ·exact h.elim
 all_goals first
  |(cases hg;done)|exact at0 (λAt=>rfl) h
end
def anA (xs:List ji) (i:Nat):Bool:=match xs[i]? with|some x=>OG x.op|none=>false
def Mq (ops:Array Oper) (xs:List ji):Nat->Array Bool->Option OT
 |0,listed=>if(Region.ready .any ops listed).isEmpty then some .done else none
 |f+1,listed=>match (Region.ready .any ops listed).find? (anA xs) with
   |some j=>match xs[j]?,Mq ops xs f (listed.setIfInBounds j true) with|some x,some t=>some (.op x t)|_,_=>none
   |none=>GK (λi=>match xs[i]?,Mq ops xs f (listed.setIfInBounds i true) with|some x,some t=>some (.op x t)|_,_=>none) (Region.ready .any ops listed)
def wE (ops:Array Oper) (xs:List ji):Bool :=
 (List.range xs.length).all λi=>(List.range xs.length).all λj=>i==j||Er ops xs.length i j||Er ops xs.length j i||(match xs[i]?,xs[j]? with
    |some x,some y=>!OG x.op||(pH x y&&(!Xo x.op||SF y.op))
    |_,_=>false)
def hoo (P:Program) (f:FuncId):Bool:=match P.funcs[f]? with
 |some fn=>fn.resultTypes.toList.any λt=>match rN P t with
   |some z=>z.toList.any λv=>match v with|.slice ..=>true|_=>false
   |none=>false
 |none=>false
def hsm (P:Program) (xs:List ji):Bool:=xs.any λx=>match x.op with
 |.call f _=>hoo P f
 |.agg z ps=>ps.any λp=>(match z[p.1]? with
   |some (.slice none 0 0)=>true
   |_=>false)&&match p.2.2 with
     |.t d=>xs.any λy=>y.dst==some d&&match y.op with|.callv ..=>true|_=>false
     |_=>false
 |_=>false
def uq (P:Program) (Bs:List TypeId) (ops:Array Oper):Option OT :=
 match fP P Bs ops ops.toList with
 |none=>none|some xs=>if P.follows .mixedOrders&&(xs.all (λx=>x.guard.isNone)&&(hsm P xs&&(wE ops xs&&xs.length==ops.size))) then Mq ops xs ops.size (Array.replicate ops.size false) else none
section
variable {P:Program} {Q1:FuncId->ca} {w0:World} {ops:Array Oper} {xs:List ji} {At:List ak->List ar->Prop}
theorem hyv (hS:∀ f,(Q1 f).Ok P f) (hp:wE ops xs=true) (hlen:xs.length=ops.size) {i:Nat} {x:ji} (hx:xs[i]? = some x) (Vl:OG x.op=true):∀ (fuel:Nat) (listed:Array Bool) (sl:List ak) (lh:List ar),gC ops listed->i∈Region.ready .any ops listed ->
 dK w0 (zA Q1) sl lh none (λv l=>BB w0 (zA Q1) ops xs At fuel (listed.setIfInBounds i true) (fk sl x.dst v) l) x.op->BB w0 (zA Q1) ops xs At (fuel+1) listed sl lh:=by
 have hP:=r7 hS;have good:∀ (listed:Array Bool) (j:Nat) (y:ji),gC ops listed->i∈Region.ready .any ops listed->j∈Region.ready .any ops listed->j≠i->xs[j]? = some y->pH x y=true/\(Xo x.op=false∨SF y.op=true):=λlisted j y hc hi hj Rw hy=>by
  let ⟨ui,oi,Ts,ai⟩:=mem_ready.1 hi
  let ⟨uj,oj,VH,aj⟩:=mem_ready.1 hj
  have li:i<xs.length:=by rw[hlen];exact(Array.getElem?_eq_some_iff.1 Ts).1
  have lj:j<xs.length:=by rw[hlen];exact(Array.getElem?_eq_some_iff.1 VH).1
  simp[wE,If,List.mem_range]at hp;have:=hp i li j lj;simp only[Gy,Ek,hx,hy,Vl]at this;have no:∀ {x:Nat},listed.getD x true=false->listed.getD x false=true->False:=λ{x} M N=>by
   rcases Fa x listed.size with h|h
   ·simp[h]at M N;rw[M]at N;cases N
   ·simp[Ks h]at M
  rcases this with ((h|h)|h)|h
  ·exact(Rw h.symm).elim
  ·exact(no uj (fM hc _ i oi Ts ai h)).elim
  ·exact(no ui (fM hc _ j oj VH aj h)).elim
  ·simp only[HM,D2,Gy,G6,Ee,false_or]at h;exact h
 intro fuel;induction fuel with
 |zero=>
   intro listed sl lh hc hi QR;refine⟨λh=>(by rw[h]at hi;cases hi),λj hj y hy=>?_⟩;by_cases SA:j=i
   ·subst SA;rw[hx]at hy;cases hy;exact QR
   ·exfalso
    have hr:=ready_mono hj SA
    let ⟨v,_,QR⟩:=(GI Vl).1 QR
    have hnil:=QR.1;rw[hnil]at hr;cases hr
 |succ fuel ih=>
   intro listed sl lh hc hi QR;refine⟨λh=>(by rw[h]at hi;cases hi),λj hj y hy=>?_⟩;by_cases SA:j=i
   ·subst SA;rw[hx]at hy;cases hy;exact QR
   ·let ⟨v,hv,QR⟩:=(GI Vl).1 QR
    let ⟨oW,VD⟩:=good listed j y hc hi hj SA hy
    let ⟨a1,a2,a3⟩:=pU oW
    have M:=QR.2 j (ready_mono hj SA) y hy;rw[qf (sl':=sl) (qq (λt ht=>a1 t ht))]at M;have N:dK w0 (zA Q1) sl lh none (λu l=>pm w0 l sl x.op=some v/\BB w0 (zA Q1) ops xs At fuel ((listed.setIfInBounds i true).setIfInBounds j true) (fk (fk sl x.dst v) y.dst u) l) y.op:=by
     rcases VD with VD|VD
     ·exact dX hP (λu l h=>⟨(sl1 VD).trans hv,h⟩) M
     ·exact dX hP (λu l h=>⟨by obtain⟨⟨t,rfl⟩,_⟩:=h;exact smT hv,h.2⟩) (hze hS VD M)
    refine dX hP (λu l h=>?_) N;refine ih _ _ l (fS hc hj) (ready_mono hi (Ne.symm SA)) ?_;rw[GI Vl];refine⟨v,?_,?_⟩
    ·rw[hrc (sl':=sl) (qq (λt ht=>a3 t ht))];exact h.1
    ·rw[OO _ _ SA,Pg (d:=y.dst) (d':=x.dst) (λk hk Rv=>a2 k Rv hk)];exact h.2
theorem TX (hS:∀ f,(Q1 f).Ok P f) (hp:wE ops xs=true) (hg:xs.all (λx=>x.guard.isNone)=true) (hlen:xs.length=ops.size):∀ (fuel:Nat) (listed:Array Bool) (sl:List ak) (lh:List ar) (t:OT),gC ops listed->Mq ops xs fuel listed=some t->qS w0 (zA Q1) t sl lh At->BB w0 (zA Q1) ops xs At fuel listed sl lh
 |0,listed,sl,lh,t,hc,ht,hv=>by
   simp only[Mq]at ht;split at ht
   ·rename_i he;cases ht;exact⟨by simpa using he,hv⟩
   ·cases ht
 |fuel+1,listed,sl,lh,t,hc,ht,hv=>by
   have hP:=r7 hS;have one:∀ (x:ji) (j:Nat),xs[j]? = some x->∀ {At:List ak->List ar->Prop},fF w0 (zA Q1) [x] sl lh At->dK w0 (zA Q1) sl lh none (λv l=>At (fk sl x.dst v) l) x.op:=λx j hx At h=>by
    have Y8:x.guard=none:=by have:=List.all_eq_true.1 hg x (JG hx);simpa using this
    simp[fF,Y8]at h;exact h
   simp[Mq]at ht;split at ht
   ·rename_i j hj
    split at ht
    ·rename_i x u hx hu
     cases ht;have YF:=List.mem_of_find?_eq_some hj;have rm:OG x.op=true:=by have:=List.find?_some hj;simpa[anA,hx] using this
     refine hyv hS hp hlen hx rm fuel listed sl lh hc YF ?_;exact dX hP (λv l h=>TX hS hp hg hlen fuel _ _ l u (fS hc YF) hu h) (one x j hx hv)
    ·cases ht
   ·rename_i hnone
    refine⟨λhr=>?_,λi hi x hx=>?_⟩
    ·rw[hr]at ht;simp[GK,DJ]at ht;subst ht;exact hv
    ·let ⟨u,hu,u5⟩:=zw ht hv i hi
     rw[hx]at hu;split at hu
     ·rename_i x' r e1 hr;cases e1;cases hu;exact dX hP (λv l h=>TX hS hp hg hlen fuel _ _ l r (fS hc hi) hr h) (one x i hx u5)
     ·cases hu
end
section
variable {P:Program} {Q1:FuncId->ca} {Bs:List TypeId} {B:dP} {F:Fence} {n:Nat} {ops:Array Oper}
theorem hnw (hF:lD F) (hS:∀ f,(Q1 f).Ok P f) (hE:∀ t∈Bs,dM P t) {id:Nat} {t:OT} (hc:uq P Bs ops=some t) {At:List ak->List ar->Prop} {Q2:Exit->Act->World->Prop} {sl:List ak} {lh:List ar} {m:aN} {a:Act} {w:World}
 (hs:kl B m sl lh a w) (h:qS B.w0 (zA Q1) t sl lh At) (hQ:∀sl' lh' m' a' w',kl B m' sl' lh' a' w'->jx lh m lh' m'->At sl' lh'->Q2 .normal a' w'):(Code.region id ops true).wpIn F n P Q2 a w:=by
 unfold uq at hc;split at hc
 ·cases hc
 ·rename_i xs T2
  split at hc
  ·rename_i hcond
   simp only[D2,Ek]at hcond
   let ⟨M,N,_,h4,h5⟩:=hcond
   refine wpIn_region_any M ?_;have Ri:gC ops (Array.replicate ops.size false):=λk o hk=>by simp[Jz]at hk;split at hk<;>simp at hk
   have hall:=TX hS h4 N h5 ops.size _ sl lh t Ri hc h;exact se hF (r7 hS) hE T2 N hQ _ _ sl lh m a _ ⟨hs.1,hs.2.1,hs.2.2.drew _⟩ (jx.refl _ _) hall
  ·cases hc
end
end Go.Sx
