/- Part 1 of a proof. No conditions. -/
import Derived.CallsIn
import Derived.Laws.Entries
import Derived.OrdersIn
set_option maxRecDepth 100000
set_option linter.unusedVariables false
set_option linter.unusedSimpArgs false
theorem K {p:Prop} (h:p:=by omega):p:=h
theorem au {p:Prop} (h:p:=by simp):p:=h
theorem aO {p:Prop} (h:p:=by decide):p:=h
abbrev Ae:=@Bool.and_eq_true
abbrev Ap:=@Nat.eq_of_beq_eq_true
abbrev BF:=@List.getElem?_append_left
abbrev Ak:=@Option.some.injEq
abbrev Bb:=@Option.map_eq_some_iff
abbrev As:=@of_decide_eq_true
abbrev Ah:=@Nat.le_refl
abbrev DD:=@List.getElem?_append_right
abbrev Bf:=@Nat.le_of_ble_eq_true
abbrev AU:=@if_neg
abbrev D1:=@List.getElem?_eq_none
abbrev Be:=@List.getElem?_set
abbrev Bt:=@Int.toNat_natCast
abbrev D2:=@of_decide_eq_false
abbrev DY:=@Nat.mul_le_mul_right
abbrev Ad:=@if_pos
abbrev Cc:=@List.cons.injEq
abbrev DJ:=@decide_eq_true_eq
abbrev Ds:=@List.getElem?_eq_getElem
abbrev DK:=@Option.map_some
abbrev Do:=@List.mem_cons_of_mem
abbrev Bc:=@Nat.zero_le
abbrev E9:=@List.getElem?_cons_zero
abbrev EA:=@List.getElem?_cons_succ
abbrev E1:=@List.getElem?_append
abbrev DX:=@List.map_cons
abbrev Dl:=@List.length_cons
abbrev Eo:=@Int.mul_le_mul_of_nonneg_right
abbrev Du:=@List.length_append
abbrev Dy:=@Bool.false_eq_true
abbrev DO:=@Nat.succ_mul
abbrev EC:=@Nat.ble_eq_true_of_le
abbrev Dj:=@List.all_cons
abbrev DZ:=@Nat.zero_add
abbrev E5:=@List.getElem?_take
abbrev ED:=@List.ext_getElem?
abbrev Dq:=@List.mem_cons
abbrev ET:=@Nat.lt_of_lt_of_le
abbrev EU:=@List.getElem?_drop
abbrev H6:=@List.getD_eq_getElem?_getD
abbrev Ef:=@List.length_reverse
abbrev DU:=@eq_of_beq
abbrev EV:=@List.reverse_cons
abbrev EY:=@Bool.not_eq_true'
abbrev Eh:=@List.mem_cons_self
abbrev E0:=@Nat.le_trans
abbrev EJ:=@List.length_nil
abbrev D5:=@true_and
abbrev I4:=@Int.tdiv_eq_ediv_of_nonneg
abbrev Im:=@List.take_append_of_le_length
abbrev Da:=@if_false
abbrev Eu:=@Array.toList_inj
abbrev Io:=@Int.fdiv_eq_ediv_of_nonneg
abbrev I5:=@List.take_of_length_le
abbrev Ei:=@Nat.mul_le_mul
abbrev EM:=@Nat.lt_or_ge
abbrev EO:=@Int.le_of_lt
abbrev F9:=@Bool.or_eq_true
abbrev E4:=@beq_iff_eq
abbrev Fi:=@Array.toList_map
abbrev FA:=@List.drop_drop
abbrev Fj:=@Nat.not_lt_zero
abbrev EP:=@Nat.add_mul
abbrev IB:=@List.replicate_succ
abbrev Fl:=@Bool.eq_iff_iff
abbrev H8:=@List.not_mem_nil
abbrev Ej:=@Nat.add_zero
abbrev I8:=@List.pairwise_cons
abbrev I9:=@List.mem_singleton
abbrev Ek:=@Int.mul_zero
abbrev Fc:=@List.take_take
abbrev Ff:=@Bool.not_false
abbrev Is:=@List.mem_of_getElem?
abbrev IA:=@List.append_assoc
abbrev Je:=@Array.getElem?_replicate
abbrev Ez:=@Bool.not_not
abbrev Dk:=@if_true
abbrev Iu:=@List.map_congr_left
abbrev Fs:=@Bool.not_true
abbrev Iw:=@Array.length_toList
abbrev Ix:=@Array.getElem?_push
abbrev ID:=@List.range'_succ
abbrev Kf:=@List.drop_append_of_le_length
abbrev IE:=@List.all_eq_true
abbrev IG:=@Nat.min_eq_left
abbrev IC:=@List.mem_append
abbrev Ft:=@List.map_nil
abbrev Ji:=@List.getElem?_toArray
abbrev H9:=@Nat.add_assoc
abbrev Kh:=@Int.tmod_eq_emod_of_nonneg
abbrev Jj:=@List.mem_append_left
abbrev Jf:=@List.getElem?_mapIdx
abbrev Kg:=@Array.getElem?_eq_getElem
abbrev Iy:=@List.length_tail
abbrev Iz:=@List.length_drop
abbrev J0:=@List.cons_append
abbrev J1:=@Bool.cond_eq_ite
abbrev Fu:=@Int.one_mul
abbrev J9:=@Option.map_none
abbrev Ki:=@Array.getElem?_eq_none
abbrev Jl:=@not_true_eq_false
abbrev Jn:=@List.flatten_cons
abbrev HF:=@Int.mul_pos
abbrev J3:=@decide_eq_true
abbrev J6:=@List.mapM_cons
abbrev J8:=@List.drop_take
abbrev IH:=@Nat.ne_of_lt
abbrev Ko:=@List.take_append_drop
abbrev Jo:=@Option.getD_some
abbrev Jp:=@Nat.mod_eq_of_lt
abbrev Kl:=@List.range_eq_range'
abbrev Km:=@List.mem_of_mem_tail
abbrev JA:=@Bool.and_self
abbrev HH:=@Nat.mod_lt
abbrev KV:=@beq_eq_false_iff_ne
abbrev Jc:=@List.append_nil
abbrev KW:=@Array.toList_append
abbrev MN:=@Array.getD_eq_getD_getElem?
abbrev MQ:=@Array.toList_setIfInBounds
abbrev If:=@Nat.sub_self
abbrev KY:=@Nat.lt_or_gt_of_ne
abbrev Ig:=@Nat.add_comm
abbrev KZ:=@Int.natCast_nonneg
abbrev Ma:=@Array.setIfInBounds_comm
abbrev Jd:=@Bool.and_true
abbrev Ka:=@forall_eq_or_imp
abbrev Kb:=@List.length_take
namespace Go.Sx
inductive js where|l (k off:Nat)|g (a:Addr)
inductive ak where|int (k:IntKind) (n:Int)|bool (b:Bool)|str (s:ByteArray)|ptr (p:Option js)|slice (p:Option js) (len cap:Nat)|fn (f:Fn) (first caps:List ak)|agg (cs:List ak)|tup (vs:List ak)|raw (v:Value)|any
inductive ar where|dead|hid|cells (cs:List ak) (ty:TypeId)
abbrev aN:=Nat->Option Nat
def ef (m:aN):Option js->Option Addr->Prop
 |none,PX=>PX=none|some (.g a),PX=>PX=some a|some (.l k off),PX=>∃b,m k=some b/\PX=some ⟨b,off,none⟩
mutual
def AW (m:aN):ak->Value->Prop
 |.int k n,v=>v=.int k n|.bool b,v=>v=.bool b|.str s,v=>v=.string s|.ptr p,v=>∃PX,v=.pointer PX/\ef m p PX|.slice p n c,v=>∃PX,v=.slice PX n c/\ef m p PX|.fn f xs ys,v=>∃us vs,v=.func f us vs/\aE m xs us.toList/\aE m ys vs.toList|.agg cs,v=>∃vs,v=.agg vs/\aE m cs vs.toList|.tup cs,v=>∃vs,v=.tuple vs/\aE m cs vs.toList|.raw u,v=>v=u|.any,_=>True
def aE (m:aN):List ak->List Value->Prop
 |[],vs=>vs=[]|x::xs,vs=>∃u us,vs=u::us/\AW m x u/\aE m xs us
end
def aN.le (m m':aN):Prop:=∀k b,m k=some b->m' k=some b
theorem aN.le_refl (m:aN):m.le m:=λ_ _ h=>h
theorem aN.le_trans {a b c:aN} (h:a.le b) (k:b.le c):a.le c:=λi x hx=>k i x (h i x hx)
theorem F70 {m m':aN} (h:m.le m'):∀ {p PX},ef m p PX->ef m' p PX
 |none,_,hp=>hp|some (.g _),_,hp=>hp|some (.l _ _),_,⟨b,hb,hq⟩=>⟨b,h _ _ hb,hq⟩
mutual
theorem hr0 {m m':aN} (h:m.le m'):∀ (a:ak) (v:Value),AW m a v->AW m' a v
 |.int ..,_,hv=>by simp[AW]at hv ⊢;exact hv
 |.bool ..,_,hv=>by simp[AW]at hv ⊢;exact hv
 |.str ..,_,hv=>by simp[AW]at hv ⊢;exact hv
 |.ptr ..,_,hv=>by simp[AW]at hv ⊢;let ⟨PX,M,Q⟩:=hv;exact⟨PX,M,F70 h Q⟩
 |.slice ..,_,hv=>by simp[AW]at hv ⊢;let ⟨PX,M,Q⟩:=hv;exact⟨PX,M,F70 h Q⟩
 |.fn _ xs ys,_,hv=>by simp[AW]at hv ⊢;let ⟨us,vs,M,Q,h3⟩:=hv;exact⟨us,vs,M,dc h xs _ Q,dc h ys _ h3⟩
 |.agg cs,_,hv=>by simp[AW]at hv ⊢;let ⟨vs,M,Q⟩:=hv;exact⟨vs,M,dc h cs _ Q⟩
 |.tup cs,_,hv=>by simp[AW]at hv ⊢;let ⟨vs,M,Q⟩:=hv;exact⟨vs,M,dc h cs _ Q⟩
 |.raw _,_,hv=>by simp[AW]at hv ⊢;exact hv
 |.any,_,_=>by simp[AW]
theorem dc {m m':aN} (h:m.le m'):∀ (az:List ak) (vs:List Value),aE m az vs->aE m' az vs
 |[],_,hv=>by simp[aE]at hv ⊢;exact hv
 |a::az,_,hv=>by simp[aE]at hv ⊢;let ⟨u,us,M,Q,h3⟩:=hv;exact⟨u,us,M,hr0 h a u Q,dc h az us h3⟩
end
theorem c9 {m:aN}:∀ {az:List ak} {vs:List Value},aE m az vs->vs.length=az.length
 |[],_,h=>by simp[aE]at h;subst h;rfl
 |_::_,_,h=>by simp[aE]at h;obtain⟨u,us,rfl,_,h3⟩:=h;simp[c9 h3]
theorem jJ {m:aN}:∀ {az:List ak} {vs:List Value} (i:Nat) {a:ak},aE m az vs->az[i]? = some a->∃ v,vs[i]? = some v/\AW m a v
 |[],_,_,_,_,h=>by simp at h
 |_::_,_,0,_,hr,h=>by simp[aE]at hr;obtain⟨u,us,rfl,Q,_⟩:=hr;simp at h;subst h;exact⟨u,rfl,Q⟩
 |_::_,_,i+1,_,hr,h=>by
   simp[aE]at hr;obtain⟨u,us,rfl,_,h3⟩:=hr;simp at h
   let ⟨v,hv,hr⟩:=jJ i h3 h
   exact⟨v,by simpa using hv,hr⟩
theorem oD {m:aN} {az:List ak} {vs:List Value} (h:aE m az vs) (i:Nat) (d:Value):AW m (az.getD i .any) (vs.getD i d):=by
 cases ha:az[i]? with
 |none=>simp[List.getD,ha,AW]
 |some a=>
   let ⟨v,hv,hr⟩:=jJ i h ha
   simp[List.getD,ha,hv,hr]
theorem kZ {m:aN}:∀ {az:List ak} {vs:List Value} (i:Nat) {a:ak} {v:Value},aE m az vs->AW m a v->aE m (az.set i a) (vs.set i v)
 |[],_,_,_,_,h,_=>by simp[aE]at h;subst h;simp[aE]
 |_::_,_,0,_,_,hr,h=>by simp[aE]at hr;obtain⟨u,us,rfl,Q,h3⟩:=hr;simp only[List.set_cons_zero,aE];exact⟨_,_,rfl,h,h3⟩
 |_::_,_,i+1,_,_,hr,h=>by simp[aE]at hr;obtain⟨u,us,rfl,Q,h3⟩:=hr;simp only[List.set_cons_succ,aE];exact⟨_,_,rfl,Q,kZ i h3 h⟩
theorem Fy {m:aN}:∀ {az bs:List ak} {us vs:List Value},aE m az us->aE m bs vs->aE m (az++bs) (us++vs)
 |[],_,_,_,h,k=>by simp[aE]at h;subst h;simpa using k
 |_::_,_,_,_,h,k=>by simp[aE]at h;obtain⟨u,us,rfl,Q,h3⟩:=h;simp only[J0,aE];exact⟨_,_,rfl,Q,Fy h3 k⟩
theorem fM {m:aN}:∀ {az:List ak} {vs:List Value} (i:Nat),aE m az vs->aE m (az.take i) (vs.take i)
 |[],_,i,h=>by simp[aE]at h;subst h;simp[aE]
 |_::_,_,0,_=>by simp[aE]
 |_::_,_,i+1,h=>by simp[aE]at h;obtain⟨u,us,rfl,Q,h3⟩:=h;simp only[List.take_succ_cons,aE];exact⟨_,_,rfl,Q,fM i h3⟩
theorem gD {m:aN}:∀ {az:List ak} {vs:List Value} (i:Nat),aE m az vs->aE m (az.drop i) (vs.drop i)
 |[],_,i,h=>by simp[aE]at h;subst h;simp[aE]
 |_::_,_,0,h=>h
 |_::_,_,i+1,h=>by simp[aE]at h;obtain⟨u,us,rfl,Q,h3⟩:=h;simp[List.drop_succ_cons];exact gD i h3
theorem gV {m:aN}:∀ (n:Nat) (v:Value),aE m (List.replicate n .any) (List.replicate n v)
 |0,_=>by simp[aE]
 |n+1,v=>by simp only[IB,aE];exact⟨_,_,rfl,by simp[AW],gV n v⟩
def nI:Value->Bool
 |.agg _|.tuple _=>false|_=>true
def ak.cells:ak->List ak
 |.agg cs=>cs|a=>[a]
def ak.one:ak->Bool
 |.agg _|.tup _|.any=>false|.raw v=>nI v|_=>true
def ak.flat:ak->Bool
 |.agg cs=>cs.all ak.one|a=>a.one
theorem aAd {m:aN} {a:ak} {v:Value} (h:AW m a v) (M:a.one=true):nI v=true:=by
 cases a<;>simp[AW]at h
 case int=>subst h;rfl
 case bool=>subst h;rfl
 case str=>subst h;rfl
 case ptr=>obtain⟨PX,rfl,_⟩:=h;rfl
 case slice=>obtain⟨PX,rfl,_⟩:=h;rfl
 case fn=>obtain⟨_,_,rfl,_⟩:=h;rfl
 case raw=>subst h;simpa[ak.one] using M
 all_goals simp[ak.one]at M
theorem fza4 {v:Value} (h:nI v=true):v.cells=#[v]:=by cases v<;>simp_all [nI,Value.cells]
theorem oe {m:aN} {a:ak} {v:Value} (h:AW m a v) (M:a.flat=true):aE m a.cells v.cells.toList/\∀ u∈v.cells.toList,nI u=true:=by
 cases a with
 |agg cs=>
   simp[AW]at h;obtain⟨vs,rfl,Q⟩:=h;refine⟨Q,?_⟩;simp[ak.flat]at M;simp only[Value.cells];generalize vs.toList=l at Q;induction cs generalizing l with
   |nil=>simp only[aE]at Q;subst Q;simp
   |cons c cs ih=>
     simp[aE]at Q;obtain⟨u,us,rfl,h3,h4⟩:=Q;simp[Dj,Ae]at M;intro x hx;rcases List.mem_cons.1 hx with rfl|hx
     ·exact aAd h3 M.1
     ·exact ih M.2 us h4 x hx
 |_=>have h3:=aAd h (by simpa[ak.flat] using M);rw[fza4 h3];exact⟨by simp only[ak.cells,aE];exact⟨_,_,rfl,h,rfl⟩,by simpa using h3⟩
structure dN where
 w0:World
 wf:World
 own:Nat->Prop
 ds:List Deferred
structure bk (B:dN) (m:aN) (lh:List ar) (w:World):Prop where
 os:w.os=B.wf.os
 tape:w.tape=B.wf.tape
 output:w.output=B.wf.output
 size:B.w0.heap.size<=w.heap.size
 old:∀b,b<B.w0.heap.size->w.heap[b]? = B.w0.heap[b]?
 fsize:B.wf.heap.size<=w.heap.size
 kept:∀b,b<B.wf.heap.size->¬B.own b->w.heap[b]? = B.wf.heap[b]?
 loc:∀k cs ty,lh[k]? = some (.cells cs ty)->∃b vs,m k=some b/\aE m cs vs.toList/\w.heap[b]? = some (.cells vs ty (0,0))/\B.w0.heap.size<=b/\(B.wf.heap.size<=b∨B.own b)
 inj:∀k k' b cs cs' ty ty',lh[k]? = some (.cells cs ty)->lh[k']? = some (.cells cs' ty')->m k=some b->m k'=some b->k=k'
 dom:∀k,lh.length<=k->m k=none
 dead:∀k,lh[k]? = some .dead->m k=none
 rng:∀k b,m k=some b->b<w.heap.size
theorem bk.start (w:World):bk ⟨w,w,λ_=>False,[]⟩ (λ_=>none) [] w :=
 ⟨rfl,rfl,rfl,Ah _,λ_ _=>rfl,Ah _,λ_ _ _=>rfl,λ_ _ _ h=>by simp at h,λ_ _ _ _ _ _ _ h=>by simp at h,λ_ _=>rfl,λ_ _=>rfl,λ_ _ h=>by cases h⟩
theorem bk.drew {B:dN} {m:aN} {lh:List ar} {w:World} (h:bk B m lh w) (n:Nat):bk B m lh { w with drawn:=n } :=
 ⟨h.os,h.tape,h.output,h.size,h.old,h.fsize,h.kept,h.loc,h.inj,h.dom,h.dead,h.rng⟩
theorem bk.cell {B:dN} {m:aN} {lh:List ar} {w:World} (h:bk B m lh w) {k off:Nat} {cs:List ak} {ty:TypeId} {c:ak}
 (hk:lh[k]? = some (.cells cs ty)) (hc:cs[off]? = some c) {PX:Option Addr} (hq:ef m (some (.l k off)) PX) :
 ∃b v,PX=some ⟨b,off,none⟩/\m k=some b/\w.cell? ⟨b,off,none⟩=some v/\w.frozen? ⟨b,off,none⟩=false/\AW m c v:=by
 obtain⟨b,hb,rfl⟩:=hq
 let ⟨b',vs,QX,Qh,hh,_⟩:=h.loc k cs ty hk
 rw[hb]at QX;cases QX
 let ⟨v,hv,hr⟩:=jJ off Qh hc
 refine⟨b,v,rfl,hb,?_,?_,hr⟩
 ·simp[World.cell?,hh];simpa using hv
 ·simp[World.frozen?,hh]
theorem bk.cell_g {B:dN} {m:aN} {lh:List ar} {w:World} (h:bk B m lh w) {a:Addr} {v:Value} (hc:B.w0.cell? a=some v):w.cell? a=some v:=by
 have hb:a.block<B.w0.heap.size:=by apply Classical.byContradiction;intro hn;simp[World.cell?,Ki (Nat.le_of_not_lt hn)]at hc
 simp[World.cell?,h.old _ hb];exact hc
end Go.Sx
namespace Go.Sx
theorem hrv {α β:Type} (P:Program):∀ (s:Sem α) (f:α->Sem β) (w:World),(s >>= f).run P w=match s.run P w with
 |.ok a w'=>(f a).run P w'|.halt h w'=>.halt h w':=by
 intro s f;show ∀w,(Sem.bind s f).run P w=_;induction s with
 |pure a=>intro w;rfl
 |load m a k ih=>
   intro w;simp[Sem.bind,Sem.run];split
   ·exact ih _ _
   ·split
    ·exact ih _ _
    ·rfl
 |store m a v k ih=>
   intro w
   cases v<;>simp[Sem.bind,Sem.run]<;>first
    |rfl
    | (split
       ·split
        ·rfl
        ·exact ih _
       ·split
        ·exact ih _
        ·rfl)
 |new o k ih=>intro w;simp[Sem.bind,Sem.run];exact ih _ _|shape r k ih=>intro w;simp[Sem.bind,Sem.run];exact ih _ _|freeze a n k ih=>intro w;simp[Sem.bind,Sem.run];exact ih _|frozen a k ih=>intro w;simp[Sem.bind,Sem.run];exact ih _ _
 |getObj r k ih=>
   intro w;simp[Sem.bind,Sem.run];split
   ·rfl
   ·exact ih _ _
   ·rfl
 |setObj r o k ih=>
   intro w;simp[Sem.bind,Sem.run];split
   ·rfl
   ·exact ih _
   ·rfl
 |choose PX k ih=>
   intro w;simp[Sem.bind,Sem.run];split
   ·exact ih _ _
   ·exact ih _ _
 |sys c k ih=>intro w;simp[Sem.bind,Sem.run];exact ih _ _|program k ih=>intro w;simp[Sem.bind,Sem.run];exact ih _ _|mark m k ih=>intro w;simp[Sem.bind,Sem.run];exact ih _|halt h=>intro w;rfl
theorem af {α β:Type} {P:Program} {s:Sem α} {f:α->Sem β} {w w':World} {a:α} (h:s.run P w=.ok a w'):(s >>= f).run P w=(f a).run P w':=by rw[hrv,h]
theorem bk.put {B:dN} {m:aN} {lh lh':List ar} {w:World} (h:bk B m lh w) {p:Nat} {cs:List ak} {ty:TypeId} {vs:Array Value}
 (hp:m p=none) (hl:lh'[p]? = some (.cells cs ty)) (ho:∀k,k ≠ p->lh'[k]? = lh[k]?) (hv:aE m cs vs.toList) :
 bk B (λk=>if k=p then some w.heap.size else m k) lh' { w with heap:=w.heap.push (.cells vs ty (0,0)) }/\m.le (λk=>if k=p then some w.heap.size else m k):=by
 have Qm:m.le (λk=>if k=p then some w.heap.size else m k):=λk b hk=>by
  have:k≠p:=λe=>by rw[e,hp]at hk;cases hk
  simp[this,hk]
 refine⟨⟨h.os,h.tape,h.output,by have:=h.size;simp;omega,λb hb=>?_,by have:=h.fsize;simp;omega,λb hb UM=>?_,λk cs' ty' hk=>?_,λk k' b cs1 cs2 ty1 Ai M Q hb QX=>?_,λk hk=>?_,λk hk=>?_,λk b hk=>?_⟩,Qm⟩
 ·have:=h.size;rw[Ix,AU K];exact h.old b hb
 ·have:=h.fsize;rw[Ix,AU K];exact h.kept b hb UM
 ·by_cases e:k=p
  ·subst e;rw[hl]at hk;cases hk;exact⟨w.heap.size,vs,au,dc Qm _ _ hv,au,h.size,.inl h.fsize⟩
  ·rw[ho k e]at hk
   let ⟨b,us,hb,Sl,hh,Xq⟩:=h.loc k cs' ty' hk
   refine⟨b,us,by simp[e,hb],dc Qm _ _ Sl,?_,Xq⟩;have:=h.rng k b hb;show(w.heap.push _)[b]? = _;rw[Ix,AU K];exact hh
 ·by_cases e:k=p<;>by_cases e':k'=p
  ·rw[e,e']
  ·simp[e,Dk]at hb;cases hb;simp[e',Da]at QX;have:=h.rng k' _ QX;omega
  ·simp[e',Dk]at QX;cases QX;simp[e,Da]at hb;have:=h.rng k _ hb;omega
  ·simp[e,e',Da]at hb QX;rw[ho k e]at M;rw[ho k' e']at Q;exact h.inj k k' b cs1 cs2 ty1 Ai M Q hb QX
 ·have e:k≠p:=λe=>by
   subst e;rw[D1 hk]at hl;cases hl
  simp[e,Da];apply h.dom;have:=ho k e;rw[D1 hk]at this;exact List.getElem?_eq_none_iff.1 this.symm
 ·have e:k≠p:=λe=>by subst e;rw[hl]at hk;cases hk
  simp[e,Da];exact h.dead k (by rw[← ho k e];exact hk)
 ·by_cases e:k=p
  ·simp[e,Dk]at hk;cases hk;simp
  ·simp[e,Da]at hk;have:=h.rng k b hk;simp;omega
theorem bk.push {B:dN} {m:aN} {lh:List ar} {w:World} (h:bk B m lh w) {cs:List ak} {ty:TypeId} {vs:Array Value} (hv:aE m cs vs.toList) :
 bk B (λk=>if k=lh.length then some w.heap.size else m k) (lh++[.cells cs ty]) { w with heap:=w.heap.push (.cells vs ty (0,0)) } /\
  m.le (λk=>if k=lh.length then some w.heap.size else m k) :=
 h.put (h.dom _ (Ah _)) au (λk hk=>by
  rw[E1];split
  ·rfl
  ·rename_i hn;rw[D1 (by simp;omega),D1 K]) hv
theorem bk.junk {B:dN} {m:aN} {lh:List ar} {w:World} (h:bk B m lh w) (o:Obj):bk B m lh { w with heap:=w.heap.push o } :=
 ⟨h.os,h.tape,h.output,by have:=h.size;simp;omega,λb hb=>by have:=h.size;rw[Ix,AU K];exact h.old b hb,
  by have:=h.fsize;simp;omega,λb hb ho=>by have:=h.fsize;rw[Ix,AU K];exact h.kept b hb ho,
  fun k cs ty hk=>by
   let ⟨b,vs,hb,Qh,hh,hs⟩:=h.loc k cs ty hk
   have:=h.rng k b hb;exact⟨b,vs,hb,Qh,by rw[Ix,AU K];exact hh,hs⟩,
  h.inj,h.dom,h.dead,λk b hk=>by have:=h.rng k b hk;simp;omega⟩
theorem bk.set {B:dN} {m:aN} {lh:List ar} {w:World} (h:bk B m lh w) {k off:Nat} {cs:List ak} {ty:TypeId} {x:ak} {v:Value} {b:Nat}
 (hk:lh[k]? = some (.cells cs ty)) (hb:m k=some b) (hx:AW m x v) :
 bk B m (lh.set k (.cells (cs.set off x) ty)) (w.setCell ⟨b,off,none⟩ v):=by
 let ⟨b',vs,QX,Qh,hh,hs,TX⟩:=h.loc k cs ty hk
 rw[hb]at QX;cases QX;have WT:k<lh.length:=(List.getElem?_eq_some_iff.1 hk).1;have hget:∀j,(lh.set k (.cells (cs.set off x) ty))[j]? = if k=j then some (.cells (cs.set off x) ty) else lh[j]? := λj=>by rw[Be];split<;>simp_all
 have hheap:∀ i,(w.setCell ⟨b,off,none⟩ v).heap[i]? = if b=i then some (.cells (vs.setIfInBounds off v) ty (0,0)) else w.heap[i]? := λi=>by
  simp[World.setCell,Array.getElem?_modify];split
  ·rename_i e;subst e;simp[hh]
  ·rfl
 have Qu:(w.setCell ⟨b,off,none⟩ v).heap.size=w.heap.size:=by simp[World.setCell]
 refine⟨h.os,h.tape,h.output,by rw[Qu];exact h.size,λi hi=>?_,by rw[Qu];exact h.fsize,λi hi ho=>?_,λj cs' ty' hj=>?_,λj j' i cs1 cs2 ty1 Ai M Q hi RI=>?_,λj hj=>?_,λj hj=>?_,λj i hj=>?_⟩
 ·rw[hheap,AU K];exact h.old i hi
 ·rw[hheap,AU (λe=>by subst e;rcases TX with M|M;exact absurd hi K;exact ho M)];exact h.kept i hi ho
 ·rw [hget]at hj
  split at hj
  ·rename_i e;subst e;cases hj;refine⟨b,vs.setIfInBounds off v,hb,?_,by rw[hheap,Ad rfl],hs,TX⟩;rw[MQ];exact kZ off Qh hx
  ·rename_i e
   let ⟨i,us,hi,Sl,ip16,ix14⟩:=h.loc j cs' ty' hj
   refine⟨i,us,hi,Sl,?_,ix14⟩;rw[hheap,AU (λe'=>e (h.inj k j b cs cs' ty ty' hk hj hb (by rw[hi,e'])))];exact ip16
 ·have f:∀ {j:Nat} {c:List ak} {t:TypeId},(lh.set k (ar.cells (cs.set off x) ty))[j]? = some (ar.cells c t)->∃ c' t',lh[j]? = some (ar.cells c' t'):=λ{j c t} hj=>by
   rw[hget]at hj;split at hj
   ·rename_i e;subst e;exact⟨_,_,hk⟩
   ·exact⟨_,_,hj⟩
  let ⟨c1,t1,g1⟩:=f M
  let ⟨c2,t2,g2⟩:=f Q
  exact h.inj j j' i c1 c2 t1 t2 g1 g2 hi RI
 ·exact h.dom j (by simpa using hj)
 ·rw[hget]at hj;split at hj
  ·cases hj
  ·exact h.dead j hj
 ·rw[Qu];exact h.rng j i hj
def wr:List ak->Nat->List ak->List ak
 |cs,_,[]=>cs|cs,off,x::xs=>wr (cs.set off x) (off+1) xs
theorem qz:∀ (xs cs:List ak) (off:Nat),(wr cs off xs).length=cs.length
 |[],_,_=>rfl|_::xs,cs,off=>by simp[wr,qz xs]
theorem nD (b off i:Nat):(⟨b,off,none⟩:Addr).add i=⟨b,off+i,none⟩:=by
 unfold Addr.add;split
 ·rename_i h;subst h;rfl
 ·rfl
theorem hp2 {P:Program} {w:World} {a:Addr} {v:Value} {u:Value} (hv:nI v=true) (hc:w.cell? a=some u) (hf:w.frozen? a=false):(store a v).run P w=.ok () (w.setCell a v):=by cases v<;>simp_all [store,Sem.run,nI]
theorem bk.stores {B:dN} {m:aN} {P:Program} {k b off:Nat} {ty:TypeId} (hb:m k=some b):∀ (xs:List ak) (us:List Value) (cs:List ak) (lh:List ar) (w:World) (i:Nat),
 bk B m lh w->lh[k]? = some (.cells cs ty)->off+i+xs.length<=cs.length->aE m xs us->(∀u∈us,nI u=true) ->
 ∃w',(storeCells ⟨b,off,none⟩ us i).run P w=.ok () w'/\bk B m (lh.set k (.cells (wr cs (off+i) xs) ty)) w':=by
 intro xs;induction xs with
 |nil=>
   intro us cs lh w i h hk hl hr _;simp[aE]at hr;subst hr;refine⟨w,by unfold storeCells;rfl,?_⟩;have:lh.set k (.cells (wr cs (off+i) []) ty)=lh:=by
    apply ED;intro j;rw[Be];split
    ·rename_i e;subst e
     let ⟨M,Q⟩:=List.getElem?_eq_some_iff.1 hk
     simp[wr,M,Q]
    ·rfl
   rw[this];exact h
 |cons x xs ih=>
   intro us cs lh w i h hk hl hr M;simp[aE]at hr;obtain⟨u,us,rfl,hx,hr⟩:=hr;have Pj:off+i<cs.length:=by simp at hl;omega
   let ⟨b',v,hq,QX,hc,hf,_⟩:=h.cell hk (Ds Pj) ⟨b,hb,rfl⟩
   rw[hb]at QX;cases QX;have hs:=h.set (off:=off+i) hk hb hx;have WT:k<lh.length:=(List.getElem?_eq_some_iff.1 hk).1
   let ⟨w',TY,hrel⟩:=ih us (cs.set (off+i) x) (lh.set k (.cells (cs.set (off+i) x) ty)) (w.setCell ⟨b,off+i,none⟩ u) (i+1) hs (by simp[WT]) (by simp at hl ⊢;omega) hr (λu' UP=>M u' (Do _ UP))
   refine⟨w',?_,?_⟩
   ·unfold storeCells;rw[nD,af (hp2 (M u Eh) hc hf)];exact TY
   ·rw[List.set_set]at hrel;exact hrel
end Go.Sx
namespace Go.Sx
def bV:Value->ak
 |.int k n=>.int k n|.bool b=>.bool b|.string s=>.str s|.pointer none=>.ptr none|.pointer (some a)=>.ptr (some (.g a))|.slice none n c=>.slice none n c|.slice (some a) n c=>.slice (some (.g a)) n c|v=>.raw v
theorem cL (m:aN) (v:Value):AW m (bV v) v:=by
 cases v with
 |pointer a=>cases a<;>simp[bV,AW,ef]|slice a n c=>cases a<;>simp[bV,AW,ef]|_=>simp[bV,AW]
def js.add:js->Nat->js
 |.l k off,n=>.l k (off+n)|.g a,n=>.g (a.add n)
theorem sX {m:aN} {p:js} {PX:Option Addr} (h:ef m (some p) PX) (n:Nat):∃ a,PX=some a/\ef m (some (p.add n)) (some (a.add n)):=by
 cases p with
 |l k off=>obtain⟨b,hb,rfl⟩:=h;exact⟨_,rfl,b,hb,by rw[nD]⟩|g a=>simp[ef]at h;subst h;exact⟨a,rfl,rfl⟩
def gT (w0:World) (a:Addr):Nat->Nat->Option (List ak)
 |_,0=>some []
 |i,n+1=>match w0.cell? (a.add i),gT w0 a (i+1) n with|some v,some l=>some (bV v::l)|_,_=>none
def lds (w0:World) (lh:List ar):js->Nat->Option (List ak)
 |.l k off,n=>match lh[k]? with
   |some (.cells cs _)=>if off+n<=cs.length then some ((cs.drop off).take n) else none
   |_=>none
 |.g a,n=>gT w0 a 0 n
def ld (w0:World) (lh:List ar):js->Option ak
 |.l k off=>match lh[k]? with|some (.cells cs _)=>cs[off]?|_=>none
 |.g a=>(w0.cell? a).map bV
theorem aAo {B:dN} {m:aN} {lh:List ar} {w:World} (h:bk B m lh w) {p:js} {PX:Option Addr} (hq:ef m (some p) PX) {x:ak} (hx:ld B.w0 lh p=some x) :
 ∃a v,PX=some a/\w.cell? a=some v/\AW m x v:=by
 cases p with
 |l k off=>
   simp[ld]at hx;split at hx
   ·rename_i cs ty hk
    let ⟨b,v,M,_,h3,_,h5⟩:=h.cell hk hx hq
    exact⟨_,v,M,h3,h5⟩
   ·cases hx
 |g a=>simp[ef]at hq;subst hq;simp[ld,Bb]at hx;obtain⟨v,hv,rfl⟩:=hx;exact⟨a,v,rfl,h.cell_g hv,cL m v⟩
theorem yy {P:Program} {w:World} {a:Addr} {v:Value} (h:w.cell? a=some v):(load a).run P w=.ok v w:=by simp[load,Sem.run,h]
theorem oH {P:Program} {w:World} {a:Addr}:∀ (vs:List Value) (i:Nat) (acc:Array Value),(∀ j v,vs[j]? = some v->w.cell? (a.add (i+j))=some v) ->
 (loadCellsFrom a i vs.length acc).run P w=.ok (acc++vs.toArray) w
 |[],i,acc,_=>by simp[loadCellsFrom]
 |v::vs,i,acc,h=>by
   simp only[Dl,loadCellsFrom];have h0:w.cell? (a.add i)=some v:=by simpa using h 0 v rfl
   rw[af (yy h0),oH vs (i+1) (acc.push v) (λj u hu=>by have:=h (j+1) u (by simpa using hu);rw[← this];congr 2;omega)];simp
theorem e9 {w0:World} {a:Addr}:∀ (n i:Nat) (xs:List ak),gT w0 a i n=some xs->∃ vs:List Value,xs=vs.map bV/\vs.length=n/\∀ j v,vs[j]? = some v->w0.cell? (a.add (i+j))=some v
 |0,i,xs,h=>by simp[gT,Ak]at h;subst h;exact⟨[],rfl,rfl,λj v hv=>by simp at hv⟩
 |n+1,i,xs,h=>by
   simp[gT]at h;split at h
   ·rename_i v l hv hl
    cases h;obtain⟨vs,rfl,Q,h3⟩:=e9 n (i+1) l hl;refine⟨v::vs,rfl,by simp[Q],λj u hu=>?_⟩;cases j with
    |zero=>simp at hu;subst hu;exact hv|succ j=>have:=h3 j u (by simpa using hu);rw[← this];congr 2;omega
   ·cases h
theorem cz (m:aN):∀ vs:List Value,aE m (vs.map bV) vs
 |[]=>by simp[aE]
 |v::vs=>by simp only[DX,aE];exact⟨_,_,rfl,cL m v,cz m vs⟩
theorem uv {B:dN} {m:aN} {lh:List ar} {w:World} {P:Program} (h:bk B m lh w) {p:js} {PX:Option Addr} (hq:ef m (some p) PX) {n:Nat} {xs:List ak} (hx:lds B.w0 lh p n=some xs) :
 ∃a vs,PX=some a/\(loadCells a n).run P w=.ok vs w/\aE m xs vs.toList:=by
 cases p with
 |l k off=>
   simp[lds]at hx;split at hx
   ·rename_i cs ty hk
    split at hx
    ·rename_i Qm
     cases hx;obtain⟨b,hb,rfl⟩:=hq
     let ⟨b',vs,QX,Qh,hh,_⟩:=h.loc k cs ty hk
     rw[hb]at QX;cases QX;have hl:=c9 Qh;have hr:=fM n (gD off Qh);have hn:((vs.toList.drop off).take n).length=n:=by simp at hl ⊢;omega
     refine⟨_,((vs.toList.drop off).take n).toArray,rfl,?_,by simpa using hr⟩;have:=oH (P:=P) (w:=w) (a:=⟨b,off,none⟩) ((vs.toList.drop off).take n) 0 #[] (λj v hv=>by
      rw[nD];rw[E5]at hv;split at hv
      ·rw[EU]at hv;simp[World.cell?,hh];simpa using hv
      ·cases hv)
     rw[hn]at this;simpa[loadCells] using this
    ·cases hx
   ·cases hx
 |g a=>simp[ef]at hq;subst hq;obtain⟨vs,rfl,Q,h3⟩:=e9 n 0 xs hx;refine⟨a,vs.toArray,rfl,?_,by simpa using cz m vs⟩;have:=oH (P:=P) (w:=w) (a:=a) vs 0 #[] (λj v hv=>h.cell_g (h3 j v hv));rw[Q]at this;simpa[loadCells] using this
inductive gn where|t (i:Nat)|k (v:ak)
def arg (sl:List ak):gn->ak
 |.t i=>sl.getD i .any|.k v=>v
def bn:Operand->gn
 |.tmp t=>.t t|.const v=>.k (bV v)|.global g=>.k (.ptr (some (.g ⟨g,0,none⟩)))|.func f=>.k (.fn (.func f) [] [])
theorem bd {m:aN} {sl:List ak} {a:Act} (h:aE m sl a.tmps.toList) (x:Operand):AW m (arg sl (bn x)) (a.eval x):=by
 cases x with
 |tmp t=>simp[bn,arg,Act.eval];have:=oD h t undef;simpa using this
 |const v=>exact cL m v|global g=>simp[bn,arg,Act.eval,AW,ef]|func f=>simp[bn,arg,Act.eval,AW,aE]
theorem iC {m:aN} {sl:List ak} {a:Act} (h:aE m sl a.tmps.toList):∀ xs:List Operand,aE m ((xs.map bn).map (arg sl)) (xs.map a.eval)
 |[]=>by simp[aE]
 |x::xs=>by simp only[DX,aE];exact⟨_,_,rfl,bd h x,iC h xs⟩
abbrev ci:=World->List ak->List ar->(ak->List ar->Prop)->Prop
def jI (lh:List ar) (m:aN) (lh':List ar) (m':aN):Prop:=m.le m'/\∀k,lh[k]? = some .hid->lh'[k]? = some .hid/\m' k=m k
theorem jI.refl (lh:List ar) (m:aN):jI lh m lh m:=⟨aN.le_refl m,λ_ h=>⟨h,rfl⟩⟩
theorem jI.trans {l1 l2 l3:List ar} {m1 m2 m3:aN} (h:jI l1 m1 l2 m2) (k:jI l2 m2 l3 m3):jI l1 m1 l3 m3 :=
 ⟨aN.le_trans h.1 k.1,λj hj=>⟨(k.2 j (h.2 j hj).1).1,((k.2 j (h.2 j hj).1).2).trans (h.2 j hj).2⟩⟩
def ajW (P : Program) (f : FuncId) : Prop := ∃ fn, P.funcs[f]? = some fn /\ (fn.name == "runtime.NumGoroutine") = false /\ fn.body.isNone = false
def ci.Sound (P:Program) (f:FuncId) (Pe:ci):Prop :=
 ∀ (B:dN) (m:aN) (lh:List ar) (w:World) (args:List ak) (vs:List Value) (PR:ak->List ar->Prop),bk B m lh w->aE m args vs->Pe B.w0 args lh PR ->
  ajW P f/\Calls P f vs.toArray w λe w'=>∃v r m' lh',e=.returned v/\AW m' r v/\jI lh m lh' m'/\bk B m' lh' w'/\PR r lh'
def cu:List ak->List ak->Option Bool
 |[],[]=>some true|.int k a::xs,.int k' b::ys=>if k=k' then(cu xs ys).map (a==b&&·) else none
 |_,_=>none
def dL (P:Program) (t:TypeId):Prop:=P.eqGuardType P.depth t=false/\∀ (n:Nat),(P.info? t).map (·.size)=some n->∀ (xs ys:List ak) (us vs:Array Value) (m:aN) (b:Bool) (w:World),xs.length=n->aE m xs us.toList->aE m ys vs.toList->cu xs ys=some b ->
 (Op.equal t (.agg us) (.agg vs)).run P w=.ok b w
inductive lZ where
 |mov (x:gn)
 |pick (c a b:gn)
 |new (ty:TypeId) (zero:List ak)
 |box (ty:TypeId) (x:gn)
 |agg (zero:List ak) (parts:List (Nat×Nat×gn))
 |bsl (ty:TypeId) (len:Nat) (zero:List ak) (parts:List (Nat×Nat×gn))
 |ld (a:gn)
 |lds (n:Nat) (a:gn)
 |st (n:Nat) (a x:gn)
 |nz (x:gn)
 |bin (op:BinOp) (x y:gn)
 |eqa (neg:Bool) (n:Nat) (x y:gn)
 |eqb (neg:Bool) (x y:gn)
 |un (op:UnOp) (x:gn)
 |conv (k:IntKind) (x:gn)
 |mkf (fn:Fn) (first caps:List gn)
 |fa (off:Nat) (x:gn)
 |fld (off:Nat) (n:Option Nat) (x:gn)
 |iaA (len esz:Nat) (x ix:gn)
 |iaS (esz:Nat) (x ix:gn)
 |ixA (len esz:Nat) (n:Option Nat) (x ix:gn)
 |ixS (x ix:gn)
 |len (x:gn)
 |lenT (x:gn)
 |lenA (n:Nat)
 |mm (isMax:Bool) (x:gn) (xs:List gn)
 |ext (x:gn) (i:Nat)
 |slS (esz:Nat) (x:gn) (lo hi mx:Option gn)
 |slA (n esz:Nat) (x:gn) (lo hi mx:Option gn)
 |slT (x:gn) (lo hi:Option gn)
 |app (ty:TypeId) (esz bytes:Nat) (zero:List ak) (s x:gn)
 |mks (ty:TypeId) (n:Nat) (cells:List ak)
 |call (f:FuncId) (args:List gn)
 |callv (x:gn) (args:List gn)
 |isn (neg:Bool) (x:gn)
 |clr (esz:Nat) (z:List ak) (x:gn)
end Go.Sx
namespace Go.Sx
def place (pl:Option Nat) (lh:List ar) (o:ar) (PR:Nat->List ar->Prop):Prop :=
 match pl with
 |none=>PR lh.length (lh++[o])|some p=>lh[p]? = some .dead/\PR p (lh.set p o)
def parts (sl:List ak):List (Nat×Nat×gn)->List ak->(List ak->Prop)->Prop
 |[],z,PR=>PR z|(off,n,x)::ps,z,PR=>(arg sl x).flat=true/\(arg sl x).cells.length=n/\off+n<=z.length/\parts sl ps (wr z off (arg sl x).cells) PR
def ue (op:BinOp) (k:IntKind) (a b:Int) (PR:ak->Prop):Prop :=
 match op with
 |.add=>PR (.int k (k.wrap (a+b)))|.sub=>PR (.int k (k.wrap (a-b)))|.mul=>PR (.int k (k.wrap (a*b)))|.quo=>b≠0/\PR (.int k (k.wrap (a.tdiv b)))|.rem=>b≠0/\PR (.int k (a.tmod b))|.eql=>PR (.bool (a==b))|.neq=>PR (.bool (a !=b))|.lss=>PR (.bool (decide (a<b)))|.leq=>PR (.bool (decide (a<=b)))|.gtr=>PR (.bool (decide (b<a)))|.geq=>PR (.bool (decide (b<=a)))|.and=>PR (.int k (bits .and k a b))|.or=>PR (.int k (bits .or k a b))|.xor=>PR (.int k (bits .xor k a b))|.shl=>0<=b/\PR (.int k (k.wrap (a*2 ^ min b.toNat k.bits)))|.shr=>0<=b/\PR (.int k (a.fdiv (2 ^ min b.toNat k.bits)))|_=>False
def CS (op:BinOp) (a b:ByteArray) (PR:ak->Prop):Prop :=
 match op with
 |.eql=>PR (.bool (a.toList==b.toList))|.neq=>PR (.bool !(a.toList==b.toList))|.add=>((a.size+b.size:Nat):Int)<=IntKind.i64.max/\PR (.str (a++b))|_=>False
def Rv (op:BinOp) (x y:ak) (PR:ak->Prop):Prop :=
 match x,y with
 |.int k a,.int k' b=>k=k'/\ue op k a b PR|.str a,.str b=>CS op a b PR|_,_=>False
def bnd (x:Option ak) (y d:Nat) (PR:Nat->Prop):Prop :=
 match x with
 |none=>PR d|some (.int _ i)=>0<=i/\i<=y/\PR i.toNat|_=>False
def mm2 (isMax:Bool):ak->List ak->(ak->Prop)->Prop
 |x,[],PR=>PR x|.int k a,.int k' b::xs,PR=>k=k'/\mm2 isMax (.int k (if isMax then max a b else min a b)) xs PR|_,_,_=>False
def cellsOf (w0:World) (lh:List ar) (p:Option js) (n:Nat):Option (List ak) :=
 match p with
 |none=>some []|some p=>lds w0 lh p n
def tY (w0:World) (lh:List ar) (pl:Option Nat) (ty:TypeId) (esz bytes:Nat) (zero:List ak) (PR:ak->List ar->Prop):ak->ak->Prop
 |.slice p n c,.slice PX k _=>
   ∃ new, cellsOf w0 lh PX (k*esz)=some new /\
    (n+k<=c->match p with
      | some (.l b off)=>∃ cs t,lh[b]? = some (.cells cs t)/\new.all ak.one=true/\off+n*esz+new.length<=cs.length /\
         PR (.slice (some (.l b off)) (n+k) c) (lh.set b (.cells (wr cs (off+n*esz) new) t))
      |none=>PR (.slice none (n+k) c) lh|some (.g a)=>new=[]/\PR (.slice (some (.g a)) (n+k) c) lh) /\
    (c<n+k->∃ old,cellsOf w0 lh p (n*esz)=some old/\Builtin.nextslicecap (n+k) c*bytes<=2 ^ 48/\(((n+k:Nat):Int)<=IntKind.i64.max∨bytes≠0) /\
      ∀c',n+k<=c'->place pl lh (.cells (old++new++(List.replicate (c'-(n+k)) zero).flatten) ty) λb lh'=>PR (.slice (some (.l b 0)) (n+k) c') lh')
 |_,_=>False
def dK (w0:World) (Pe:FuncId->ci) (sl:List ak) (lh:List ar) (pl:Option Nat) (PR:ak->List ar->Prop):lZ->Prop
 |.mov x=>PR (arg sl x) lh
 |.pick c a b=>match arg sl c with
   |.bool t=>(t=true->PR (arg sl a) lh)/\(t=false->PR (arg sl b) lh)
   |_=>False
 |.new ty z=>place pl lh (.cells z ty) λp lh'=>PR (.ptr (some (.l p 0))) lh'
 |.box ty x=>(arg sl x).flat=true/\place pl lh (.cells (arg sl x).cells ty) λp lh'=>PR (.ptr (some (.l p 0))) lh'
 |.agg z ps=>parts sl ps z λcs=>PR (.agg cs) lh
 |.bsl ty n z ps=>parts sl ps z λcs=>place pl lh (.cells cs ty) λp lh'=>PR (.slice (some (.l p 0)) n n) lh'
 |.ld a=>match arg sl a with
   |.ptr (some p)=>∃v,ld w0 lh p=some v/\PR v lh
   |_=>False
 |.lds n a=>match arg sl a with
   |.ptr (some p)=>∃cs,lds w0 lh p n=some cs/\PR (.agg cs) lh
   |_=>False
 |.st n a x=>match arg sl a with
   | .ptr (some (.l k off))=>∃ cs ty,lh[k]? = some (.cells cs ty)/\(arg sl x).flat=true/\(arg sl x).cells.length=n/\off+n<=cs.length /\
      PR (.tup []) (lh.set k (.cells (wr cs off (arg sl x).cells) ty))
   |_=>False
 |.nz x=>match arg sl x with
   |.ptr (some p)=>PR (.ptr (some p)) lh
   |.fn (.func f) a b=>PR (.fn (.func f) a b) lh
   |_=>False
 |.bin op x y=>Rv op (arg sl x) (arg sl y) λv=>PR v lh
 |.eqa neg n x y=>match arg sl x,arg sl y with
   |.agg xs,.agg ys=>xs.length=n/\∃b,cu xs ys=some b/\PR (.bool (if neg then !b else b)) lh
   |_,_=>False
 |.eqb neg x y=>match arg sl x,arg sl y with
   |.bool a,.bool b=>PR (.bool (if neg then !(a==b) else a==b)) lh
   |_,_=>False
 |.un op x=>match op,arg sl x with
   |.neg,.int k n=>PR (.int k (k.wrap (0-n))) lh
   |.not,.bool b=>PR (.bool !b) lh
   |_,_=>False
 |.conv k x=>match arg sl x with
   |.int _ n=>PR (.int k (k.wrap n)) lh
   |_=>False
 |.mkf f xs ys=>PR (.fn f (xs.map (arg sl)) (ys.map (arg sl))) lh
 |.fa off x=>match arg sl x with
   |.ptr (some p)=>PR (.ptr (some (p.add off))) lh
   |_=>False
 |.fld off n x=>match arg sl x with
   |.agg cs=>match n with
     |some n=>PR (.agg ((cs.drop off).take n)) lh
     |none=>∃v,cs[off]? = some v/\PR v lh
   |_=>False
 |.iaA n esz x ix=>match arg sl x,arg sl ix with
   |.ptr (some p),.int _ i=>0<=i/\i<n/\PR (.ptr (some (p.add (i.toNat*esz)))) lh
   |_,_=>False
 |.iaS esz x ix=>match arg sl x,arg sl ix with
   |.slice p n _,.int _ i=>0<=i/\i<n/\∃PX,p=some PX/\PR (.ptr (some (PX.add (i.toNat*esz)))) lh
   |_,_=>False
 |.ixA n esz sz x ix=>match arg sl x,arg sl ix with
   |.agg cs,.int _ i=>0<=i/\i<n/\match sz with
     |some sz=>PR (.agg ((cs.drop (i.toNat*esz)).take sz)) lh
     |none=>∃v,cs[i.toNat*esz]? = some v/\PR v lh
   |_,_=>False
 |.ixS x ix=>match arg sl x,arg sl ix with
   |.str s,.int _ i=>0<=i/\i<s.size/\PR (.int .u8 ((s.data.toList.getD i.toNat 0).toNat:Int)) lh
   |_,_=>False
 |.len x=>match arg sl x with
   |.slice _ n _=>PR (.int .i64 n) lh
   |_=>False
 |.lenT x=>match arg sl x with
   |.str s=>PR (.int .i64 s.size) lh
   |_=>False
 |.lenA n=>PR (.int .i64 n) lh
 |.mm b x xs=>mm2 b (arg sl x) (xs.map (arg sl)) λv=>PR v lh
 |.ext x i=>match arg sl x with
   |.tup vs=>∃v,vs[i]? = some v/\PR v lh
   |_=>False
 |.slS esz x lo hi mx=>match arg sl x with
   |.slice p n c=>bnd (mx.map (arg sl)) c c λm=>bnd (hi.map (arg sl)) m n λh=>bnd (lo.map (arg sl)) h 0 λl=>
      PR (.slice (if m=l then p else p.map (js.add · (l*esz))) (h-l) (m-l)) lh
   |_=>False
 |.slA n esz x lo hi mx=>match arg sl x with
   |.ptr (some p)=>bnd (mx.map (arg sl)) n n λm=>bnd (hi.map (arg sl)) m n λh=>bnd (lo.map (arg sl)) h 0 λl=>
      PR (.slice (some (if m=l then p else p.add (l*esz))) (h-l) (m-l)) lh
   |_=>False
 |.slT x lo hi=>match arg sl x with
   |.str s=>bnd (hi.map (arg sl)) s.size s.size λh=>bnd (lo.map (arg sl)) h 0 λl=>PR (.str (s.extract l h)) lh
   |_=>False
 |.app ty esz bytes zero s x=>tY w0 lh pl ty esz bytes zero PR (arg sl s) (arg sl x)
 |.mks ty n cs=>place pl lh (.cells cs ty) λp lh'=>PR (.slice (some (.l p 0)) n n) lh'
 |.call f xs=>Pe f w0 (xs.map (arg sl)) lh PR
 |.callv x xs=>match arg sl x with
   |.fn (.func f) a b=>Pe f w0 (a++xs.map (arg sl)++b) lh PR
   |_=>False
 |.isn neg x=>match arg sl x with
   |.slice p _ _=>PR (.bool (if neg then !p.isNone else p.isNone)) lh
   |_=>False
 |.clr esz z x=>match arg sl x with
   |.slice (some (.l k off)) n _=>∃cs ty,lh[k]? = some (.cells cs ty)/\n≠0/\off+n*esz<=cs.length/\PR (.tup []) (lh.set k (.cells (wr cs off (List.replicate n z).flatten) ty))
   |.slice _ n _=>n=0/\PR (.tup []) lh
   |_=>False
def dA (P:Program) (o:Oper) (a:Act) (w:World) (QW:Value->World->Prop):Prop :=
 (∃v w',(execOp a.eval o).run P w=.ok (.value v) w'/\QW v w') ∨
 (∃w',(execOp a.eval o).run P w=.ok .skip w'/\QW undef w') ∨
 (∃f args,(execOp a.eval o).run P w=.ok (.enter f args) w/\Calls P f args w λe w'=>∃v,e=.returned v/\QW v w')
theorem bh {P:Program} {o:Oper} {a:Act} {w w':World} {QW:Value->World->Prop} {s:Sem Value} {v:Value}
 (he:execOp a.eval o=(do pure (.value (← s)))) (hs:s.run P w=.ok v w') (hR:QW v w'):dA P o a w QW :=
 .inl ⟨v,w',by rw[he,af hs];rfl,hR⟩
theorem hno {P:Program} {o:Oper} {a:Act} {w w':World} {QW:Value->World->Prop} {s:Sem Unit}
 (he:execOp a.eval o=(do s;pure .skip)) (hs:s.run P w=.ok () w') (hR:QW undef w'):dA P o a w QW :=
 .inr (.inl ⟨w',by rw[he,af hs];rfl,hR⟩)
def Ag (B:dN) (m:aN) (lh:List ar) (PR:ak->List ar->Prop) (v:Value) (w:World):Prop :=
 ∃r m' lh',AW m' r v/\jI lh m lh' m'/\bk B m' lh' w/\PR r lh'
theorem Ag.same {B:dN} {m:aN} {lh:List ar} {w:World} {PR:ak->List ar->Prop} {v:Value} {r:ak} (h:bk B m lh w) (hr:AW m r v) (hK:PR r lh):Ag B m lh PR v w :=
 ⟨r,m,lh,hr,jI.refl lh m,h,hK⟩
theorem sc3 {lh:List ar} {m:aN} {k:Nat} {o o':ar} (hk:lh[k]? = some o) (ho:o≠.hid):jI lh m (lh.set k o') m :=
 ⟨aN.le_refl m,λj hj=>⟨by rw[Be,AU (λe=>by subst e;rw[hk]at hj;cases hj;exact ho rfl)];exact hj,rfl⟩⟩
theorem Ag.store {B:dN} {m:aN} {lh:List ar} {w:World} {PR:ak->List ar->Prop} {v:Value} {r:ak} {k:Nat} {cs:List ak} {ty:TypeId} {o':ar} (hk:lh[k]? = some (.cells cs ty)) (h:bk B m (lh.set k o') w)
 (hr:AW m r v) (hK:PR r (lh.set k o')):Ag B m lh PR v w :=
 ⟨r,m,_,hr,sc3 hk au,h,hK⟩
theorem iH {B:dN} {m:aN} {lh:List ar} {w:World} {pl:Option Nat} {cs:List ak} {ty:TypeId} {vs:Array Value} {PR:Nat->List ar->Prop}
 (h:bk B m lh w) (hv:aE m cs vs.toList) (hp:place pl lh (.cells cs ty) PR) :
 ∃p m' lh',m' p=some w.heap.size/\jI lh m lh' m'/\bk B m' lh' { w with heap:=w.heap.push (.cells vs ty (0,0)) }/\PR p lh':=by
 cases pl with
 |none=>obtain⟨M,Q⟩:=h.push (ty:=ty) hv;refine⟨_,_,_,au,⟨Q,λk hk=>?_⟩,M,hp⟩;have Pj:k<lh.length:=(List.getElem?_eq_some_iff.1 hk).1;exact⟨by rw[BF Pj];exact hk,by simp[IH Pj]⟩
 |some p=>
   obtain⟨hd,hK⟩:=hp;obtain⟨M,Q⟩:=h.put (p:=p) (lh':=lh.set p (.cells cs ty)) (ty:=ty) (h.dead p hd) (by simp[(List.getElem?_eq_some_iff.1 hd).1]) (λk hk=>by simp[hk.symm]) hv;refine⟨_,_,_,au,⟨Q,λk hk=>?_⟩,M,hK⟩;have RY:k≠p:=λe=>by subst e;rw[hd]at hk;cases hk
   exact⟨by rw[Be,AU RY.symm];exact hk,by simp[RY]⟩
end Go.Sx
namespace Go.Sx
def zD:TypeDesc->Bool
 |.struct _|.array _ _=>true|_=>false
def re (P:Program) (t:TypeId):Option (Option Nat) :=
 match P.underlying t,P.info? t with
 |some d,some i=>some (if zD d then some i.size else none)|_,_=>none
def rL (P:Program) (t:TypeId):Option (Array Value):=((P.info? t).bind (·.zero)).map (·.cells)
def eI (P:Program) (t:TypeId):Option Nat:=(P.info? t).map (·.size)
def hjp (P:Program) (fs:Array Field):Option (List (Nat×Nat)):=fs.toList.mapM λf=>(eI P f.type).map λn=>(f.offset,n)
def qa (pls:Nat->Option (Nat×Nat)):List (Nat×Operand)->Option (List (Nat×Nat×gn))
 |[]=>some []
 |(i,x)::ps=>match pls i,qa pls ps with|some (off,n),some l=>some ((off,n,bn x)::l)|_,_=>none
def wm:Operand->Bool
 |.const (.slice none 0 0)=>true|_=>false
def hk1 (P:Program) (b:Builtin) (ts:Array TypeId) (xs:List Operand):Option lZ :=
 match b,ts.toList,xs with
 |.len,[t],[x]=>match P.underlying t with|some (.slice _)=>some (.len (bn x))|some .string=>some (.lenT (bn x))|some (.array n _)=>some (.lenA n)|_=>none
 |.max,_,x::y::xs=>some (.mm true (bn x) ((y::xs).map bn))|.min,_,x::y::xs=>some (.mm false (bn x) ((y::xs).map bn))
 |.append,[t,u],[s,x]=>match P.underlying t,P.underlying u with
   |some (.slice e),some (.slice _)=>match P.info? e with
     |some i=>match i.zero with
       |some z=>if z.cells.size=i.size&&z.cells.size !=0 then some (.app e i.size i.bytes (z.cells.toList.map bV) (bn s) (bn x)) else none
       |none=>none
     |none=>none
   |_,_=>none
 |.clear,[t],[x]=>match P.underlying t with
   |some (.slice e)=>match P.info? e with
     |some i=>match i.zero with
       |some z=>if z.cells.size=i.size&&z.cells.toList.all nI then some (.clr i.size (z.cells.toList.map bV) (bn x)) else none
       |none=>none
     |none=>none
   |_=>none
 |_,_,_=>none
def avO (P:Program) (t:TypeId) (x y:Operand):Option lZ :=
 match x,y,P.underlying t with
 |.const (.int _ n),.const (.int _ c),some (.slice e)=>match P.info? e with
   |some i=>match i.zero with
     | some z=>if n=c&&0<n&&n<=1000&&(i.bytes:Int)*n<=2 ^ 40&&i.size != 0 then
        some (.mks e n.toNat (((List.range (n.toNat*i.size)).map (z.cells[· % z.cells.size]!)).map bV)) else none
     |none=>none
   |none=>none
 |_,_,_=>none
def KS:lZ:=.ext (.k (.int .i64 0)) 0
def jH (P:Program) (AQ:List TypeId) (o:Oper):Option lZ :=
 match o.op with
 |.move x=>some (.mov (bn x))
 |.assign x=>some (.mov (bn x))
 |.pick c a b=>some (.pick (bn c) (bn a) (bn b))
 |.alloc t=>(rL P t).map λz=>.new t (z.toList.map bV)
 |.box t x=>some (.box t (bn x))
 |.build t ps=>match P.underlying t,rL P t with
   |some (.struct fs),some z=>match hjp P fs with
     |some pls=>(qa (pls[·]?) ps.toList).map (.agg (z.toList.map bV))
     |none=>none
   |some (.array _ e),some z=>match eI P e with
     |some n=>(qa (λi=>some (i*n,n)) ps.toList).map (.agg (z.toList.map bV))
     |none=>none
   |_,_=>none
 |.buildSlice t len ps=>match P.underlying t with
   |some (.slice e)=>match eI P e,rL P e with
     | some n,some z=>if len*n<=2 ^ 24&&(len*n != 0||z.size==0) then
        (qa (λi=>some (i*n,n)) ps.toList).map (.bsl e len (((List.range (len*n)).map (z[· % z.size]!)).map bV)) else if len*n=0 then(qa (λi=>some (i*n,n)) ps.toList).map (.bsl e len []) else none
     |_,_=>none
   |_=>none
 |.load t a=>match re P t with
   |some (some n)=>some (.lds n (bn a))
   |some none=>some (.ld (bn a))
   |none=>none
 |.store t a x=>(eI P t).map λn=>.st n (bn a) (bn x)
 |.nilCheck x=>some (.nz (bn x))
 |.binOp op t x y _=>match op,P.underlying t with
   |.eql,some .bool=>some (.eqb false (bn x) (bn y))
   |.neq,some .bool=>some (.eqb true (bn x) (bn y))
   |.eql,some (.struct _)|.eql,some (.array _ _)=>if AQ.contains t then(eI P t).map λn=>.eqa false n (bn x) (bn y) else none
   |.neq,some (.struct _)|.neq,some (.array _ _)=>if AQ.contains t then(eI P t).map λn=>.eqa true n (bn x) (bn y) else none
   |op,some (.int _)|op,some .string=>some (.bin op (bn x) (bn y))
   |.eql,some (.slice _)=>if wm y then some (.isn false (bn x)) else none
   |.neq,some (.slice _)=>if wm y then some (.isn true (bn x)) else none
   |_,_=>none
 |.unOp op _ x=>some (.un op (bn x))
 |.convert s d x=>match P.underlying s,P.underlying d with
   |some _,some (.int k)=>some (.conv k (bn x))
   |_,_=>none
 |.makeFunc f xs ys=>some (.mkf f (xs.toList.map bn) (ys.toList.map bn))
 |.fieldAddr t x i=>match P.underlying t with
   |some (.struct fs)=>match fs[i]? with
     |some f=>match eI P f.type with
       |some n=>if n=0 then none else some (.fa f.offset (bn x))
       |none=>none
     |none=>none
   |_=>none
 |.field t x i=>match P.underlying t with
   |some (.struct fs)=>match fs[i]? with
     |some f=>(re P f.type).map λn=>.fld f.offset n (bn x)
     |none=>none
   |_=>none
 |.indexAddr t x ix=>match P.underlying t with
   |some (.array n e)=>(eI P e).map λs=>.iaA n s (bn x) (bn ix)
   |some (.slice e)=>(eI P e).map λs=>.iaS s (bn x) (bn ix)
   |_=>none
 |.index t x ix=>match P.underlying t with
   |some (.array n e)=>match eI P e,re P e with
     |some s,some a=>some (.ixA n s a (bn x) (bn ix))
     |_,_=>none
   |some .string=>some (.ixS (bn x) (bn ix))
   |_=>none
 |.extract x i=>some (.ext (bn x) i)
 |.slice t x lo hi mx=>if mx.isSome&&!hi.isSome then none else match P.underlying t with
   |some (.slice e)=>(eI P e).map λs=>.slS s (bn x) (lo.map bn) (hi.map bn) (mx.map bn)
   |some (.array n e)=>(eI P e).map λs=>.slA n s (bn x) (lo.map bn) (hi.map bn) (mx.map bn)
   |some .string=>if mx.isSome then none else some (.slT (bn x) (lo.map bn) (hi.map bn))
   |_=>none
 |.makeSlice t x y=>avO P t x y
 |.makeInterface ..=>some KS
 |.panic _=>some KS
 |.call c=>match c.callee with
   |.value (.func f)=>match P.funcs[f]? with
     |some fn => if fn.name == "runtime.NumGoroutine" || fn.body.isNone then none else some (.call f (c.args.toList.map bn))
     |none=>none
   |.value x=>some (.callv (bn x) (c.args.toList.map bn))
   |.builtin b=>hk1 P b c.argTypes c.args.toList
   |_=>none
 |_=>none
section
variable {P:Program} {B:dN} {Pe:FuncId->ci} {m:aN} {sl:List ak} {lh:List ar} {w:World} {a:Act} {o:Oper} {pl:Option Nat} {PR:ak->List ar->Prop}
theorem aP {t:TypeId} {d:TypeDesc} (h:P.underlying t=some d) (w:World):(underlying t).run P w=.ok d w:=by unfold underlying;rw[af (a:=P) (w':=w) rfl];simp only[h];rfl
theorem eo {t:TypeId} {i:TypeInfo} (h:P.info? t=some i) (w:World):(typeInfo t).run P w=.ok i w:=by unfold typeInfo;rw[af (a:=P) (w':=w) rfl];have h':P.toTables.info? t=some i:=h;simp only[h'];rfl
theorem run_sizeOf {t:TypeId} {n:Nat} (h:eI P t=some n) (w:World):(sizeOf t).run P w=.ok n w:=by simp[eI,Bb]at h;obtain⟨i,hi,rfl⟩:=h;unfold sizeOf;rw[af (eo hi w)];rfl
theorem jN {t:TypeId} {z:Array Value} (h:rL P t=some z) (w:World):∃v,v.cells=z/\(zeroValue t).run P w=.ok v w:=by simp only[rL,Bb,Option.bind_eq_some_iff]at h;obtain⟨v,⟨i,hi,hv⟩,rfl⟩:=h;refine⟨v,rfl,?_⟩;unfold zeroValue;rw[af (eo hi w)];simp only[hv];rfl
theorem lk {t:TypeId} {d:TypeDesc} (h:P.underlying t=some d) (w:World):(isAgg t).run P w=.ok (zD d) w:=by unfold isAgg;rw[af (aP h w)];cases d<;>rfl
theorem lq {t:TypeId} {n:Option Nat} (h:re P t=some n):∃ d,P.underlying t=some d/\((zD d=true/\∃ k,n=some k/\eI P t=some k)∨(zD d=false/\n=none)):=by
 unfold re at h;split at h
 ·rename_i d i hd hi
  cases h;refine⟨d,hd,?_⟩;cases e:zD d
  ·exact .inr ⟨rfl,rfl⟩
  ·exact .inl ⟨rfl,i.size,au,by simp[eI,hi]⟩
 ·cases h
theorem ahD {x:Operand} (ho:o.op=.move x∨o.op=.assign x) (hs:aE m sl a.tmps.toList) (h:bk B m lh w) (hv:dK B.w0 Pe sl lh pl PR (.mov (bn x))):dA P o a w (Ag B m lh PR) :=
 .inl ⟨a.eval x,w,by rcases ho with ho|ho<;>(simp only[execOp,ho];rfl),Ag.same h (bd hs x) hv⟩
theorem jD {m:aN} {b:Bool} {v:Value} (h:AW m (.bool b) v):v=.bool b:=by simpa[AW] using h
theorem fY {m:aN} {k:IntKind} {n:Int} {v:Value} (h:AW m (.int k n) v):v=.int k n:=by simpa[AW] using h
theorem pJ {m:aN} {s:ByteArray} {v:Value} (h:AW m (.str s) v):v=.string s:=by simpa[AW] using h
theorem hsb {c x y:Operand} (ho:o.op=.pick c x y) (hs:aE m sl a.tmps.toList) (h:bk B m lh w) (hv:dK B.w0 Pe sl lh pl PR (.pick (bn c) (bn x) (bn y))):dA P o a w (Ag B m lh PR):=by
 have hc:=bd hs c;simp[dK]at hv;split at hv
 ·rename_i t ht
  rw[ht]at hc;have hc:=jD hc;refine .inl ⟨if t then a.eval x else a.eval y,w,?_,?_⟩
  ·simp only[execOp,ho,hc,asBool];rfl
  ·cases t
   ·exact Ag.same h (bd hs y) (hv.2 rfl)
   ·exact Ag.same h (bd hs x) (hv.1 rfl)
 ·exact hv.elim
theorem hlA {t:TypeId} {v:Value} (w:World):(newVar t v).run P w=.ok ⟨w.heap.size,0,none⟩ { w with heap:=w.heap.push (.cells v.cells t (0,0)) }:=rfl
theorem lA {t:TypeId} {c:Array Value} (w:World):(newRow t c).run P w=.ok ⟨w.heap.size,0,none⟩ { w with heap:=w.heap.push (.cells c t (0,0)) }:=rfl
theorem isq {t:TypeId} {z:Array Value} (ho:o.op=.alloc t) (hz:rL P t=some z) (h:bk B m lh w) (hv:dK B.w0 Pe sl lh pl PR (.new t (z.toList.map bV))):dA P o a w (Ag B m lh PR):=by
 let ⟨v,Wb,hrun⟩:=jN hz w
 simp[dK]at hv
 let ⟨p,m',lh',M,Q,h3,h4⟩:=iH h (vs:=z) (cz m z.toList) hv
 refine bh (s:=Instr.alloc t true (.tuple #[])) (v:=.pointer (some ⟨w.heap.size,0,none⟩)) (by simp[execOp,ho]) ?_ ⟨_,m',lh',?_,Q,h3,h4⟩
 ·unfold Instr.alloc;rw[af hrun];show(do pure (Value.pointer (some (← newVar t v))):Sem Value).run P w=_;rw[af (hlA w),Wb];rfl
 ·simp only[AW];exact⟨_,rfl,_,M,rfl⟩
theorem m72 {t:TypeId} {x:Operand} (ho:o.op=.box t x) (hs:aE m sl a.tmps.toList) (h:bk B m lh w) (hv:dK B.w0 Pe sl lh pl PR (.box t (bn x))):dA P o a w (Ag B m lh PR):=by
 simp[dK]at hv
 let ⟨hf,hv⟩:=hv
 let ⟨hc,_⟩:=oe (bd hs x) hf
 let ⟨p,m',lh',M,Q,h3,h4⟩:=iH h hc hv
 refine bh (s:=Instr.box t (a.eval x)) (v:=.pointer (some ⟨w.heap.size,0,none⟩)) (by simp[execOp,ho]) ?_ ⟨_,m',lh',?_,Q,h3,h4⟩
 ·unfold Instr.box;rw[af (hlA w)];rfl
 ·simp only[AW];exact⟨_,rfl,_,M,rfl⟩
theorem F24 (off:Nat):∀ (l:List Value) (j:Nat) (cs:Array Value),((l.zipIdx j).foldl (λ(cs:Array Value) (p:Value×Nat)=>cs.setIfInBounds (off+p.2) p.1) cs).toList =
 (l.foldl (λ(acc:List Value×Nat) v=>(acc.1.set acc.2 v,acc.2+1)) (cs.toList,off+j)).1
 |[],_,_=>rfl
 |v::l,j,cs=>by simp[List.zipIdx_cons,List.foldl_cons];rw[F24 off l (j+1)];simp[MQ];rfl
theorem aaJ {m:aN}:∀ (xs:List ak) (us:List Value) (cs:List ak) (vs:List Value) (off:Nat),aE m xs us->aE m cs vs ->
 aE m (wr cs off xs) (us.foldl (λ(acc:List Value×Nat) v=>(acc.1.set acc.2 v,acc.2+1)) (vs,off)).1
 |[],us,cs,vs,off,hx,hc=>by simp[aE]at hx;subst hx;exact hc
 |x::xs,us,cs,vs,off,hx,hc=>by simp[aE]at hx;obtain⟨u,us,rfl,M,Q⟩:=hx;simp[wr,List.foldl_cons];exact aaJ xs us _ _ _ Q (kZ off hc M)
theorem kl {pls:Nat->Option (Nat×Nat)} (hs:aE m sl a.tmps.toList):∀ (ps:List (Nat×Operand)) (qs:List (Nat×Nat×gn)) (z:List ak) (zs:Array Value) (PR:List ak->Prop),
 qa pls ps=some qs->aE m z zs.toList->parts sl qs z PR->∃cs vs,Instr.fill pls zs (ps.map λ(i,x)=>(i,a.eval x))=some vs/\aE m cs vs.toList/\PR cs
 |[],qs,z,zs,PR,hc,hz,hp=>by simp[qa,Ak]at hc;subst hc;exact⟨z,zs,by simp[Instr.fill],hz,hp⟩
 |(i,x)::ps,qs,z,zs,PR,hc,hz,hp=>by
   simp[qa]at hc;split at hc
   ·rename_i off n l S7 hl
    cases hc;simp[parts]at hp
    let ⟨hf,hn,Qm,hp⟩:=hp
    let ⟨M,_⟩:=oe (bd hs x) hf
    have Y3:=c9 M;have q9:=c9 hz;simp[Iw]at Y3 q9;have hw:=aaJ _ _ _ _ off M hz;rw[show off=off+0 from rfl,← F24 off _ 0 zs]at hw
    let ⟨cs,vs,h3,h4,h5⟩:=kl hs ps l (wr z off (arg sl (bn x)).cells) _ PR hl hw hp
    refine⟨cs,vs,?_,h4,h5⟩;simp only[DX,Instr.fill,S7];rw[AU (by simp;omega)];rw[← h3];congr 1;rw[← Array.foldl_toList,Array.toList_zipIdx]
   ·cases hc
theorem hjk:∀ (fs:List Field) (pls:List (Nat×Nat)),(fs.mapM λf=>(eI P f.type).map λn=>(f.offset,n))=some pls->∀ w,
 (fs.mapM (m:=Sem) λf=>do pure (f.offset,← sizeOf f.type)).run P w=.ok pls w
 |[],pls,h,w=>by simp at h;subst h;rfl
 |f::fs,pls,h,w=>by simp only[J6,Option.pure_def,Option.bind_eq_bind,Option.bind_eq_some_iff,Bb,Ak]at h;obtain⟨a,⟨n,hn,rfl⟩,l,hl,rfl⟩:=h;simp only[J6];rw[af (a:=(f.offset,n)) (w':=w) (by rw[af (run_sizeOf hn w)];rfl)];rw[af (hjk fs l hl w)];rfl
end
end Go.Sx
namespace Go.Sx
section
variable {P:Program} {B:dN} {Pe:FuncId->ci} {m:aN} {sl:List ak} {lh:List ar} {w:World} {a:Act} {o:Oper} {pl:Option Nat} {PR:ak->List ar->Prop}
theorem sG {cs:List ak} {v:Value} (h:AW m (.agg cs) v):∃vs,v=.agg vs/\aE m cs vs.toList:=by simpa[AW] using h
theorem j8 {p:Option js} {v:Value} (h:AW m (.ptr p) v):∃PX,v=.pointer PX/\ef m p PX:=by simpa[AW] using h
theorem gE {p:Option js} {n c:Nat} {v:Value} (h:AW m (.slice p n c) v):∃PX,v=.slice PX n c/\ef m p PX:=by simpa[AW] using h
theorem R58 {p:js} {PX:Option Addr} (h:ef m (some p) PX):∃ a,PX=some a/\ef m (some p) (some a):=by
 cases p with
 |l k off=>obtain⟨b,hb,rfl⟩:=h;exact⟨_,rfl,b,hb,rfl⟩|g a=>simp[ef]at h;subst h;exact⟨a,rfl,rfl⟩
theorem fy22 {fs:Array Field} {pls:List (Nat×Nat)} (h:hjp P fs=some pls) (w:World) :
 (fs.mapM (m:=Sem) λf=>do pure (f.offset,← sizeOf f.type)).run P w=.ok pls.toArray w:=by
 have M:=hjk (P:=P) fs.toList pls h w;have e:(fs.mapM (m:=Sem) λf=>do pure (f.offset,← sizeOf f.type))=(do pure (← fs.toList.mapM (m:=Sem) λf=>do pure (f.offset,← sizeOf f.type)).toArray):=by rw[Array.mapM_eq_mapM_toList];rfl
 rw[e,af M];rfl
theorem hpq {t:TypeId} {ps:Array (Nat×Operand)} {i:lZ} {AQ:List TypeId} (ho:o.op=.build t ps) (hc:jH P AQ o=some i) (hs:aE m sl a.tmps.toList) (h:bk B m lh w)
 (hv:dK B.w0 Pe sl lh pl PR i):dA P o a w (Ag B m lh PR):=by
 simp[jH,ho]at hc;split at hc
 ·rename_i fs z hu hz
  split at hc
  ·rename_i pls S7
   simp[Bb]at hc;obtain⟨qs,hq,rfl⟩:=hc;simp[dK]at hv
   let ⟨cs,vs,M,Q,h3⟩:=kl hs ps.toList qs _ z _ hq (cz m z.toList) hv
   let ⟨v,Wb,hrun⟩:=jN hz w
   refine bh (s:=Instr.build t (ps.map λ(i,x)=>(i,a.eval x))) (v:=.agg vs) (by simp only[execOp,ho]) ?_ (Ag.same h (by simp only[AW];exact⟨_,rfl,Q⟩) h3);unfold Instr.build;rw[af hrun,af (aP hu w)];dsimp only
   rw[af (fy22 S7 w)];have e:(λx:Nat=>pls.toArray[x]?)=(λx:Nat=>pls[x]?):=by funext x;simp
   simp only[e,Fi,Wb,M];rfl
  ·cases hc
 ·rename_i n e z hu hz
  split at hc
  ·rename_i sz Qu
   simp[Bb]at hc;obtain⟨qs,hq,rfl⟩:=hc;simp[dK]at hv
   let ⟨cs,vs,M,Q,h3⟩:=kl hs ps.toList qs _ z _ hq (cz m z.toList) hv
   let ⟨v,Wb,hrun⟩:=jN hz w
   refine bh (s:=Instr.build t (ps.map λ(i,x)=>(i,a.eval x))) (v:=.agg vs) (by simp only[execOp,ho]) ?_ (Ag.same h (by simp only[AW];exact⟨_,rfl,Q⟩) h3);unfold Instr.build;rw[af hrun,af (aP hu w)];dsimp only
   rw[af (run_sizeOf Qu w)];simp only[Fi,Wb,M];rfl
  ·cases hc
 ·cases hc
theorem ag1 {t:TypeId} {x:Operand} {i:lZ} {AQ:List TypeId} (ho:o.op=.load t x) (hc:jH P AQ o=some i) (hs:aE m sl a.tmps.toList) (h:bk B m lh w)
 (hv:dK B.w0 Pe sl lh pl PR i):dA P o a w (Ag B m lh PR):=by
 simp[jH,ho]at hc;have hx:=bd hs x;split at hc
 ·rename_i n hn
  cases hc;simp[dK]at hv;split at hv
  ·rename_i p hp
   rw[hp]at hx
   let ⟨PX,hq,Ro⟩:=j8 hx
   let ⟨cs,Ue,hK⟩:=hv
   obtain⟨ad,vs,rfl,hrun,hr⟩:=uv (P:=P) h Ro Ue
   let ⟨d,hd,V6⟩:=lq hn
   rcases V6 with ⟨M,k,hk,Q⟩|⟨_,hk⟩
   ·cases hk;refine bh (s:=Instr.loadAt t (a.eval x)) (v:=.agg vs) (by simp only[execOp,ho]) ?_ (Ag.same h (by simp only[AW];exact⟨_,rfl,hr⟩) hK);unfold Instr.loadAt;rw[hq,af (a:=ad) (w':=w) rfl];unfold loadVar;rw[af (lk hd w),M];simp only[Dk];rw[af (run_sizeOf Q w),af hrun];rfl
   ·cases hk
  ·exact hv.elim
 ·rename_i hn
  cases hc;simp[dK]at hv;split at hv
  ·rename_i p hp
   rw[hp]at hx
   let ⟨PX,hq,Ro⟩:=j8 hx
   let ⟨r,Ue,hK⟩:=hv
   obtain⟨ad,v,rfl,hrun,hr⟩:=aAo h Ro Ue
   let ⟨d,hd,V6⟩:=lq hn
   rcases V6 with ⟨_,k,hk,_⟩|⟨M,_⟩
   ·cases hk
   ·refine bh (s:=Instr.loadAt t (a.eval x)) (v:=v) (by simp[execOp,ho]) ?_ (Ag.same h hr hK);unfold Instr.loadAt;rw[hq,af (a:=ad) (w':=w) rfl];unfold loadVar;rw[af (lk hd w),M];exact yy hrun
  ·exact hv.elim
 ·cases hc
theorem aj5 {t:TypeId} {x y:Operand} {n:Nat} (ho:o.op=.store t x y) (hn:eI P t=some n) (hs:aE m sl a.tmps.toList) (h:bk B m lh w)
 (hv:dK B.w0 Pe sl lh pl PR (.st n (bn x) (bn y))):dA P o a w (Ag B m lh PR):=by
 have hx:=bd hs x;simp[dK]at hv;split at hv
 ·rename_i k off hp
  rw[hp]at hx
  let ⟨PX,hq,Ro⟩:=j8 hx
  obtain⟨b,hb,rfl⟩:=Ro
  let ⟨cs,ty,hk,hf,hl,Qm,hK⟩:=hv
  let ⟨Sz,Uc⟩:=oe (bd hs y) hf
  let ⟨w',hrun,hrel⟩:=bk.stores (P:=P) (off:=off) hb (arg sl (bn y)).cells _ cs lh w 0 h hk K Sz Uc
  refine hno (s:=Instr.storeAt t (a.eval x) (a.eval y)) (w':=w') (by simp[execOp,ho]) ?_ (Ag.store (r:=.tup []) hk hrel (by simp[AW,aE,undef]) hK);unfold Instr.storeAt;rw[hq,af (a:=(⟨b,off,none⟩:Addr)) (w':=w) rfl];unfold storeVar;rw[af (run_sizeOf hn w)];have Y3:=c9 Sz;simp[Iw]at Y3;rw[AU K];exact hrun
 ·exact hv.elim
theorem aiV {x:Operand} (ho:o.op=.nilCheck x) (hs:aE m sl a.tmps.toList) (h:bk B m lh w) (hv:dK B.w0 Pe sl lh pl PR (.nz (bn x))):dA P o a w (Ag B m lh PR):=by
 have hx:=bd hs x;simp[dK]at hv;split at hv
 ·rename_i p hp
  rw[hp]at hx
  let ⟨PX,hq,Ro⟩:=j8 hx
  obtain⟨ad,rfl,Uk⟩:=R58 Ro;exact .inl ⟨_,w,by simp only[execOp,ho,hq];rfl,Ag.same h (by simp only[AW];exact⟨_,rfl,Uk⟩) hv⟩
 ·rename_i f xs ys hp
  rw[hp]at hx;have SP:=hx;simp[AW]at SP
  let ⟨us,vs,hq,_⟩:=SP
  exact .inl ⟨_,w,by simp[execOp,ho,hq];rfl,Ag.same h (by rw[hq]at hx;exact hx) hv⟩
 ·exact hv.elim
theorem hnw {op:BinOp} {t:TypeId} {x y:Operand} {k:IntKind} {n:Int} {v:Value} (w:World):(eqGuard op t x y (.int k n) v).run P w=.ok () w:=by cases op<;>rfl
theorem hnn {op:BinOp} {t:TypeId} {x y:Operand} {s:ByteArray} {v:Value} (w:World):(eqGuard op t x y (.string s) v).run P w=.ok () w:=by cases op<;>rfl
theorem hn0 {op:BinOp} {t:TypeId} {x y:Operand} {b:Bool} {v:Value} (w:World):(eqGuard op t x y (.bool b) v).run P w=.ok () w:=by cases op<;>rfl
theorem vI {k:IntKind} {n:Int}:AW m (.int k n) (.int k n):=by simp[AW]
theorem vB {b:Bool}:AW m (.bool b) (.bool b):=by simp[AW]
theorem hk' {s:ByteArray}:AW m (.str s) (.string s):=by simp[AW]
theorem hoz {op:BinOp} {k:IntKind} {x y:Int} {t:TypeId} {K':ak->Prop} (w:World) (h:ue op k x y K'):∃ r v,AW m r v/\K' r/\(binOp op t (.int k x) (.int k y)).run P w=.ok v w:=by
 cases op<;>simp[ue]at h<;>try exact h.elim
 case add=>exact⟨_,_,vI,h,by simp[binOp,Op.intArith]⟩
 case sub=>exact⟨_,_,vI,h,by simp[binOp,Op.intArith]⟩
 case mul=>exact⟨_,_,vI,h,by simp[binOp,Op.intArith]⟩
 case quo=>exact⟨_,_,vI,h.2,by simp[binOp,Op.intDiv,h.1]⟩
 case rem=>exact⟨_,_,vI,h.2,by simp[binOp,Op.intDiv,h.1]⟩
 case eql=>exact⟨_,_,vB,h,by simp[binOp,Op.intCmp]⟩
 case neq=>exact⟨_,_,vB,h,by simp[binOp,Op.intCmp]⟩
 case lss=>exact⟨_,_,vB,h,by simp[binOp,Op.intCmp]⟩
 case leq=>exact⟨_,_,vB,h,by simp[binOp,Op.intCmp]⟩
 case gtr=>exact⟨_,_,vB,h,by simp[binOp,Op.intCmp]⟩
 case geq=>exact⟨_,_,vB,h,by simp[binOp,Op.intCmp]⟩
 case and=>exact⟨_,_,vI,h,by simp only[binOp,ne_eq,Jl,Da,intBits_and];rfl⟩
 case or=>exact⟨_,_,vI,h,by simp only[binOp,ne_eq,Jl,Da,intBits_or];rfl⟩
 case xor=>exact⟨_,_,vI,h,by simp only[binOp,ne_eq,Jl,Da,intBits_xor];rfl⟩
 case shl=>exact⟨_,_,vI,h.2,by simp only[binOp,Op.shift];rw[AU (Int.not_lt.2 h.1)];rfl⟩
 case shr=>exact⟨_,_,vI,h.2,by simp only[binOp,Op.shift];rw[AU (Int.not_lt.2 h.1)];rfl⟩
theorem hok {op:BinOp} {x y:ByteArray} {t:TypeId} {K':ak->Prop} (w:World) (h:CS op x y K'):∃ r v,AW m r v/\K' r/\(binOp op t (.string x) (.string y)).run P w=.ok v w:=by
 cases op<;>simp only[CS]at h<;>try exact h.elim
 case eql=>exact⟨_,_,vB,h,by simp only[binOp,Op.stringOp];rfl⟩
 case neq=>exact⟨_,_,vB,h,by simp only[binOp,Op.stringOp];rfl⟩
 case add=>exact⟨_,_,hk',h.2,by simp only[binOp,Op.stringOp];rw[AU (Int.not_lt.2 h.1)];rfl⟩
theorem avm {op:BinOp} {t u:TypeId} {x y:Operand} (ho:o.op=.binOp op t x y u) (hs:aE m sl a.tmps.toList) (h:bk B m lh w) (hv:dK B.w0 Pe sl lh pl PR (.bin op (bn x) (bn y))):dA P o a w (Ag B m lh PR):=by
 have hx:=bd hs x;have hy:=bd hs y;simp[dK,Rv]at hv;split at hv
 ·rename_i k p k' PX hp hq
  rw[hp]at hx;rw[hq]at hy;have hx:=fY hx;have hy:=fY hy
  let ⟨rfl,hv⟩:=hv
  let ⟨r,v,Q,h3,M⟩:=hoz (P:=P) (t:=t) (m:=m) w hv
  refine bh (s:=do eqGuard op t x y (a.eval x) (a.eval y);binOp op t (a.eval x) (a.eval y)) (v:=v) (by simp[execOp,ho]) ?_ (Ag.same h Q h3);rw[hx,hy,af (hnw w)];exact M
 ·rename_i p PX hp hq
  rw[hp]at hx;rw[hq]at hy;have hx:=pJ hx;have hy:=pJ hy
  let ⟨r,v,Q,h3,M⟩:=hok (P:=P) (t:=t) (m:=m) w hv
  refine bh (s:=do eqGuard op t x y (a.eval x) (a.eval y);binOp op t (a.eval x) (a.eval y)) (v:=v) (by simp[execOp,ho]) ?_ (Ag.same h Q h3);rw[hx,hy,af (hnn w)];exact M
 ·exact hv.elim
end
end Go.Sx
namespace Go.Sx
section
variable {P:Program} {B:dN} {Pe:FuncId->ci} {m:aN} {sl:List ak} {lh:List ar} {w:World} {a:Act} {o:Oper} {pl:Option Nat} {PR:ak->List ar->Prop}
theorem fz25 (n:Nat) (z:Array Value):((Array.range n).map (z[· % z.size]!)).toList=(List.range n).map (z[· % z.size]!):=by simp
theorem iu7 {t:TypeId} {len:Nat} {ps:Array (Nat×Operand)} {i:lZ} {AQ:List TypeId} (ho:o.op=.buildSlice t len ps) (hc:jH P AQ o=some i) (hs:aE m sl a.tmps.toList) (h:bk B m lh w)
 (hv:dK B.w0 Pe sl lh pl PR i):dA P o a w (Ag B m lh PR):=by
 simp only[jH,ho]at hc;split at hc
 ·rename_i e hu
  split at hc
  ·rename_i n z hn hz
   let ⟨v,Wb,hrun⟩:=jN hz w
   split at hc
   ·rename_i hcond
    simp only[Ae,DJ,F9,bne_iff_ne,E4]at hcond;simp only[Bb]at hc;obtain⟨qs,hq,rfl⟩:=hc;simp only[dK]at hv
    let ⟨cs,vs,M,Q,h3⟩:=kl hs ps.toList qs _ ((Array.range (len*n)).map (z[· % z.size]!)) _ hq (by rw[fz25];exact cz m _) hv
    let ⟨p,m',lh',g1,g2,g3,g4⟩:=iH h Q h3
    refine bh (s:=Instr.buildSlice t len (ps.map λ(i,x)=>(i,a.eval x))) (v:=.slice (some ⟨w.heap.size,0,none⟩) len len) (by simp only[execOp,ho]) ?_
     ⟨_,m',lh',by simp only[AW];exact⟨_,rfl,_,g1,rfl⟩,g2,g3,g4⟩
    unfold Instr.buildSlice;rw[af (aP hu w)];dsimp only
    rw[af (run_sizeOf hn w),AU K];by_cases Tz:len*n=0
    ·rw[Ad Tz]
     have Zw:z.size=0:=hcond.2.resolve_left (λc=>c Tz);have ny15:z=#[]:=Array.eq_empty_of_size_eq_zero Zw;subst ny15;simp only[pure_bind,Fi];simp only[Tz]at M ⊢;rw[M];dsimp only
     rw[af (lA w)];rfl
    ·rw[AU Tz];rw[af hrun,pure_bind,Wb];simp only[Fi,M];rw[af (lA w)];rfl
   ·split at hc
    ·rename_i Tz
     simp only[Bb]at hc;obtain⟨qs,hq,rfl⟩:=hc;simp only[dK]at hv
     let ⟨cs,vs,M,Q,h3⟩:=kl hs ps.toList qs [] #[] _ hq (by simp[aE]) hv
     let ⟨p,m',lh',g1,g2,g3,g4⟩:=iH h Q h3
     refine bh (s:=Instr.buildSlice t len (ps.map λ(i,x)=>(i,a.eval x))) (v:=.slice (some ⟨w.heap.size,0,none⟩) len len) (by simp only[execOp,ho]) ?_
      ⟨_,m',lh',by simp only[AW];exact⟨_,rfl,_,g1,rfl⟩,g2,g3,g4⟩
     unfold Instr.buildSlice;rw[af (aP hu w)];dsimp only
     rw[af (run_sizeOf hn w),AU K,Ad Tz];simp only[pure_bind,Fi];have e:(Array.range (len*n)).map (λx=>(#[]:Array Value)[x % (#[]:Array Value).size]!)=#[]:=by rw[Tz];simp[Array.range]
     rw[e,M];dsimp only
     rw[af (lA w)];rfl
    ·cases hc
  ·cases hc
 ·cases hc
theorem avw {t u:TypeId} {x y:Operand} {op:BinOp} {neg:Bool} (TU:op=if neg then .neq else .eql) (ho:o.op=.binOp op t x y u) (hu:P.underlying t=some .bool) (hs:aE m sl a.tmps.toList) (h:bk B m lh w)
 (hv:dK B.w0 Pe sl lh pl PR (.eqb neg (bn x) (bn y))):dA P o a w (Ag B m lh PR):=by
 have hx:=bd hs x;have hy:=bd hs y;simp[dK]at hv;split at hv
 ·rename_i p PX hp hq
  rw[hp]at hx;rw[hq]at hy;have hx:=jD hx;have hy:=jD hy;refine bh (s:=do eqGuard op t x y (a.eval x) (a.eval y);binOp op t (a.eval x) (a.eval y)) (by simp[execOp,ho]) ?_ (Ag.same h vB hv);rw[hx,hy,af (hn0 w)];have he:(Op.equal t (.bool p) (.bool PX)).run P w=.ok (p==PX) w:=by unfold Op.equal Op.maxDepth Op.equalIn;rw[af (aP hu w)];rfl
  subst TU;cases neg
  ·simp only[Dy,Da,binOp];rw[af he];rfl
  ·simp only[Dk,binOp];rw[af he];rfl
 ·exact hv.elim
theorem ie10 {op:BinOp} {t:TypeId} {x y:Operand} {PX:Option Addr} {n c:Nat} {v:Value} (w:World):(eqGuard op t x y (.slice PX n c) v).run P w=.ok () w:=by unfold eqGuard;cases op<;>rfl
theorem awb {t u e:TypeId} {x y:Operand} {op:BinOp} {neg:Bool} (TU:op=if neg then .neq else .eql) (ho:o.op=.binOp op t x y u) (hu:P.underlying t=some (.slice e)) (hy:wm y=true) (hs:aE m sl a.tmps.toList) (h:bk B m lh w)
 (hv:dK B.w0 Pe sl lh pl PR (.isn neg (bn x))):dA P o a w (Ag B m lh PR):=by
 have hx:=bd hs x;have ny14:a.eval y=.slice none 0 0:=by
  unfold wm at hy;split at hy
  ·rfl
  ·cases hy
 simp only[dK]at hv;split at hv
 ·rename_i p n c hp
  rw[hp]at hx
  let ⟨PX,hq,Ro⟩:=gE hx
  have hpq':p.isNone=PX.isNone:=by
   cases p with
   |none=>simp only[ef]at Ro;subst Ro;rfl
   |some p=>
     cases p with
     |g a=>simp only[ef]at Ro;subst Ro;rfl|l k off=>obtain⟨b,_,rfl⟩:=Ro;rfl
  rw[hpq']at hv;refine bh (s:=do eqGuard op t x y (a.eval x) (a.eval y);binOp op t (a.eval x) (a.eval y)) (by simp only[execOp,ho]) ?_ (Ag.same h vB hv);rw[hq,ny14,af (ie10 w)];have he:(Op.equal t (.slice PX n c) (.slice none 0 0)).run P w=.ok PX.isNone w:=by unfold Op.equal Op.maxDepth Op.equalIn;rw[af (aP hu w)];cases PX<;>rfl
  subst TU;cases neg
  ·simp only[Dy,Da,binOp];rw[af he];rfl
  ·simp only[Dk,binOp];rw[af he];rfl
 ·exact hv.elim
theorem wM {t u:TypeId} {x y:Operand} {op:BinOp} {neg:Bool} {n:Nat} (hn:eI P t=some n) (TU:op=if neg then .neq else .eql) (ho:o.op=.binOp op t x y u) (he:dL P t) (hs:aE m sl a.tmps.toList) (h:bk B m lh w)
 (hv:dK B.w0 Pe sl lh pl PR (.eqa neg n (bn x) (bn y))):dA P o a w (Ag B m lh PR):=by
 have hx:=bd hs x;have hy:=bd hs y;simp only[dK]at hv;split at hv
 ·rename_i xs ys hp hq
  rw[hp]at hx;rw[hq]at hy
  let ⟨us,nu10,Sl⟩:=sG hx
  let ⟨vs,nx11,Qh⟩:=sG hy
  let ⟨hlen,b,hb,hK⟩:=hv
  refine bh (s:=do eqGuard op t x y (a.eval x) (a.eval y);binOp op t (a.eval x) (a.eval y)) (by simp[execOp,ho]) ?_ (Ag.same h vB hK);have hg:(eqGuard op t x y (.agg us) (.agg vs)).run P w=.ok () w:=by
   subst TU;unfold eqGuard;cases neg
   ·simp only[Dy,Da,Fs];rw[af (a:=P) (w':=w) rfl,af (a:=P) (w':=w) rfl,he.1];rfl
   ·simp only[Dk,Fs,Dy,Da];rw[af (a:=P) (w':=w) rfl,af (a:=P) (w':=w) rfl,he.1];rfl
  rw[nu10,nx11,af hg];have he2:=he.2 n hn xs ys us vs m b w hlen Sl Qh hb;subst TU;cases neg
  ·simp only[Dy,Da,binOp];rw[af he2];rfl
  ·simp only[Dk,binOp];rw[af he2];rfl
 ·exact hv.elim
theorem amF {op:UnOp} {t:TypeId} {x:Operand} (ho:o.op=.unOp op t x) (hs:aE m sl a.tmps.toList) (h:bk B m lh w) (hv:dK B.w0 Pe sl lh pl PR (.un op (bn x))):dA P o a w (Ag B m lh PR):=by
 have hx:=bd hs x;simp only[dK]at hv;split at hv
 ·rename_i k n hp;rw[hp]at hx;exact bh (s:=Op.unary .neg (a.eval x)) (by simp only[execOp,ho]) (by rw[fY hx];rfl) (Ag.same h vI hv)
 ·rename_i b hp;rw[hp]at hx;exact bh (s:=Op.unary .not (a.eval x)) (by simp[execOp,ho]) (by rw[jD hx];rfl) (Ag.same h vB hv)
 ·exact hv.elim
theorem i11 {s d:TypeId} {ds:TypeDesc} {k:IntKind} {x:Operand} (ho:o.op=.convert s d x) (TW:P.underlying s=some ds) (hd:P.underlying d=some (.int k)) (hs:aE m sl a.tmps.toList) (h:bk B m lh w)
 (hv:dK B.w0 Pe sl lh pl PR (.conv k (bn x))):dA P o a w (Ag B m lh PR):=by
 have hx:=bd hs x
 simp[dK]at hv
 split at hv
 ·rename_i k' n hp
  rw[hp]at hx
  refine bh (s:=convert s d (a.eval x)) (by simp[execOp,ho]) ?_ (Ag.same h vI hv)
  rw[fY hx]
  unfold convert
  rw[af (aP TW w),af (aP hd w)];rfl
 ·exact hv.elim
theorem qhi {f:Fn} {xs ys:Array Operand} (ho:o.op=.makeFunc f xs ys) (hs:aE m sl a.tmps.toList) (h:bk B m lh w) (hv:dK B.w0 Pe sl lh pl PR (.mkf f (xs.toList.map bn) (ys.toList.map bn))) :
 dA P o a w (Ag B m lh PR):=by
 refine bh (s:=Instr.makeFunc f (xs.map a.eval) (ys.map a.eval)) (by simp[execOp,ho]) rfl (Ag.same h ?_ hv);simp only[AW];exact⟨_,_,rfl,by rw[Fi];exact iC hs _,by rw[Fi];exact iC hs _⟩
theorem agK {t:TypeId} {x:Operand} {i:Nat} {fs:Array Field} {f:Field} {n:Nat} (ho:o.op=.fieldAddr t x i) (hu:P.underlying t=some (.struct fs)) (hf:fs[i]? = some f) (hn:eI P f.type=some n) (TO:n≠0)
 (hs:aE m sl a.tmps.toList) (h:bk B m lh w) (hv:dK B.w0 Pe sl lh pl PR (.fa f.offset (bn x))):dA P o a w (Ag B m lh PR):=by
 have hx:=bd hs x;simp[dK]at hv;split at hv
 ·rename_i p hp
  rw[hp]at hx
  let ⟨PX,hq,Ro⟩:=j8 hx
  obtain⟨ad,rfl,Uk⟩:=sX Ro f.offset;refine bh (s:=Instr.fieldAt t (a.eval x) i) (v:=.pointer (some (ad.add f.offset))) (by simp only[execOp,ho]) ?_ (Ag.same h (by simp only[AW];exact⟨_,rfl,Uk⟩) hv);unfold Instr.fieldAt;rw[af (aP hu w)];dsimp only
  rw[hf];dsimp only
  rw[hq,af (a:=ad) (w':=w) rfl];unfold fieldPlace;rw[af (a:=ad.add f.offset) (w':=w) (by rw[af (run_sizeOf hn w),AU TO];rfl)];rfl
 ·exact hv.elim
theorem hie {t:TypeId} {n:Nat} (h:re P t=some (some n)) (cs:Array Value) (off:Nat) (w:World):(part t cs off).run P w=.ok (.agg (cs.extract off (off+n))) w:=by
 let ⟨d,hd,V6⟩:=lq h
 rcases V6 with ⟨M,k,hk,Q⟩|⟨_,hk⟩
 ·cases hk;unfold part;rw[af (lk hd w),M];simp only[Dk];rw[af (run_sizeOf Q w)];rfl
 ·cases hk
theorem hin {t:TypeId} (h:re P t=some none) (cs:Array Value) (off:Nat) {v:Value} (hv:cs[off]? = some v) (w:World):(part t cs off).run P w=.ok v w:=by
 let ⟨d,hd,V6⟩:=lq h
 rcases V6 with ⟨_,k,hk,_⟩|⟨M,_⟩
 ·cases hk
 ·unfold part;rw[af (lk hd w),M];simp only[Dy,Da,hv];rfl
theorem hi1 {cs:List ak} {vs:Array Value} (h:aE m cs vs.toList) (off n:Nat):aE m ((cs.drop off).take n) (vs.extract off (off+n)).toList:=by have:=fM n (gD off h);rw[Array.toList_extract];simpa[List.extract_eq_take_drop] using this
theorem yad {t:TypeId} {x:Operand} {i:Nat} {fs:Array Field} {f:Field} {n:Option Nat} (ho:o.op=.field t x i) (hu:P.underlying t=some (.struct fs)) (hf:fs[i]? = some f) (hn:re P f.type=some n)
 (hs:aE m sl a.tmps.toList) (h:bk B m lh w) (hv:dK B.w0 Pe sl lh pl PR (.fld f.offset n (bn x))):dA P o a w (Ag B m lh PR):=by
 have hx:=bd hs x;simp[dK]at hv;split at hv
 ·rename_i cs hp
  rw[hp]at hx
  let ⟨vs,hq,Qh⟩:=sG hx
  have hrun:∀ {v:Value},(part f.type vs f.offset).run P w=.ok v w->(Instr.field t (a.eval x) i).run P w=.ok v w:=λhr=>by
   unfold Instr.field;rw[af (aP hu w)];dsimp only
   rw[hf];dsimp only
   rw[hq,af (a:=vs) (w':=w) rfl];exact hr
  cases n with
  |some n=>exact bh (s:=Instr.field t (a.eval x) i) (by simp only[execOp,ho]) (hrun (hie hn vs f.offset w)) (Ag.same h (by simp only[AW];exact⟨_,rfl,hi1 Qh _ _⟩) hv)
  |none=>
    let ⟨r,hr,hK⟩:=hv
    let ⟨v,hv,Vh⟩:=jJ _ Qh hr
    exact bh (s:=Instr.field t (a.eval x) i) (by simp[execOp,ho]) (hrun (hin hn vs f.offset (by simpa using hv) w)) (Ag.same h Vh hK)
 ·exact hv.elim
theorem jf5 {t:TypeId} {x ix:Operand} {n esz:Nat} {e:TypeId} (ho:o.op=.indexAddr t x ix) (hu:P.underlying t=some (.array n e)) (he:eI P e=some esz) (hs:aE m sl a.tmps.toList) (h:bk B m lh w)
 (hv:dK B.w0 Pe sl lh pl PR (.iaA n esz (bn x) (bn ix))):dA P o a w (Ag B m lh PR):=by
 have hx:=bd hs x;have hy:=bd hs ix;simp[dK]at hv;split at hv
 ·rename_i p k i hp hi
  rw[hp]at hx;rw[hi]at hy
  let ⟨PX,hq,Ro⟩:=j8 hx
  let ⟨M,Q,hK⟩:=hv
  obtain⟨ad,rfl,Uk⟩:=sX Ro (i.toNat*esz);refine bh (s:=Instr.indexAt t (a.eval x) (a.eval ix)) (by simp only[execOp,ho]) ?_ (Ag.same h (v:=.pointer (some (ad.add (i.toNat*esz)))) (by simp only[AW];exact⟨_,rfl,Uk⟩) hK);unfold Instr.indexAt;rw[fY hy,af (a:=(k,i)) (w':=w) rfl,af (aP hu w),hq];dsimp only
  rw[af (a:=ad) (w':=w) rfl,pure_bind];dsimp only
  rw[af (aP hu w)];dsimp only
  rw[Ad ⟨M,Q⟩,af (run_sizeOf he w)];rfl
 ·exact hv.elim
theorem iz0 {t:TypeId} {x ix:Operand} {esz:Nat} {e:TypeId} (ho:o.op=.indexAddr t x ix) (hu:P.underlying t=some (.slice e)) (he:eI P e=some esz) (hs:aE m sl a.tmps.toList) (h:bk B m lh w)
 (hv:dK B.w0 Pe sl lh pl PR (.iaS esz (bn x) (bn ix))):dA P o a w (Ag B m lh PR):=by
 have hx:=bd hs x;have hy:=bd hs ix;simp[dK]at hv;split at hv
 ·rename_i p n c k i hp hi
  rw[hp]at hx;rw[hi]at hy
  let ⟨PX,hq,Ro⟩:=gE hx
  obtain⟨M,Q,p',rfl,hK⟩:=hv;obtain⟨ad,rfl,Uk⟩:=sX Ro (i.toNat*esz);refine bh (s:=Instr.indexAt t (a.eval x) (a.eval ix)) (by simp only[execOp,ho]) ?_ (Ag.same h (v:=.pointer (some (ad.add (i.toNat*esz)))) (by simp only[AW];exact⟨_,rfl,Uk⟩) hK);unfold Instr.indexAt;rw[fY hy,af (a:=(k,i)) (w':=w) rfl,af (aP hu w),hq];dsimp only
  rw[pure_bind];dsimp only
  rw[af (aP hu w)];dsimp only
  rw[Ad ⟨M,Q⟩,af (run_sizeOf he w)];rfl
 ·exact hv.elim
theorem ne1 {t:TypeId} {x ix:Operand} {n esz:Nat} {e:TypeId} {sz:Option Nat} (ho:o.op=.index t x ix) (hu:P.underlying t=some (.array n e)) (he:eI P e=some esz) (ha:re P e=some sz)
 (hs:aE m sl a.tmps.toList) (h:bk B m lh w) (hv:dK B.w0 Pe sl lh pl PR (.ixA n esz sz (bn x) (bn ix))):dA P o a w (Ag B m lh PR):=by
 have hx:=bd hs x;have hy:=bd hs ix;simp[dK]at hv;split at hv
 ·rename_i cs k i hp hi
  rw[hp]at hx;rw[hi]at hy
  let ⟨vs,hq,Qh⟩:=sG hx
  let ⟨M,Q,hK⟩:=hv
  have hrun:∀ {v:Value},(part e vs (i.toNat*esz)).run P w=.ok v w->(Instr.index t (a.eval x) (a.eval ix)).run P w=.ok v w:=λhr=>by
   unfold Instr.index;rw[fY hy,af (a:=(k,i)) (w':=w) rfl,af (aP hu w),hq];dsimp only
   rw[Ad ⟨M,Q⟩,af (run_sizeOf he w)];exact hr
  cases sz with
  |some sz=>exact bh (s:=Instr.index t (a.eval x) (a.eval ix)) (by simp only[execOp,ho]) (hrun (hie ha vs _ w)) (Ag.same h (by simp only[AW];exact⟨_,rfl,hi1 Qh _ _⟩) hK)
  |none=>
    let ⟨r,hr,hK⟩:=hK
    let ⟨v,hv,Vh⟩:=jJ _ Qh hr
    exact bh (s:=Instr.index t (a.eval x) (a.eval ix)) (by simp[execOp,ho]) (hrun (hin ha vs _ (by simpa using hv) w)) (Ag.same h Vh hK)
 ·exact hv.elim
theorem x21 {t:TypeId} {x ix:Operand} (ho:o.op=.index t x ix) (hu:P.underlying t=some .string) (hs:aE m sl a.tmps.toList) (h:bk B m lh w)
 (hv:dK B.w0 Pe sl lh pl PR (.ixS (bn x) (bn ix))):dA P o a w (Ag B m lh PR):=by
 have hx:=bd hs x;have hy:=bd hs ix;simp only[dK]at hv;split at hv
 ·rename_i s k i hp hi
  rw[hp]at hx;rw[hi]at hy
  let ⟨M,Q,hK⟩:=hv
  refine bh (s:=Instr.index t (a.eval x) (a.eval ix)) (by simp only[execOp,ho]) ?_ (Ag.same h vI hK);unfold Instr.index;rw[fY hy,af (a:=(k,i)) (w':=w) rfl,af (aP hu w),pJ hx];dsimp only
  have Pj:i.toNat<s.size:=by omega
  rw[Ad M];have e:s[i.toNat]? = some (s.data.toList.getD i.toNat 0):=by have hlt':i.toNat<s.data.size:=Pj;rw[show s[i.toNat]? = some s[i.toNat] from by simp[Pj]];congr 1;rw[H6,Array.getElem?_toList,Kg hlt'];rfl
  rw[e];rfl
 ·exact hv.elim
theorem nn0 {x:Operand} {i:Nat} (ho:o.op=.extract x i) (hs:aE m sl a.tmps.toList) (h:bk B m lh w) (hv:dK B.w0 Pe sl lh pl PR (.ext (bn x) i)):dA P o a w (Ag B m lh PR):=by
 have hx:=bd hs x;simp[dK]at hv;split at hv
 ·rename_i vs hp
  rw[hp]at hx;simp[AW]at hx
  let ⟨us,hq,Sl⟩:=hx
  let ⟨r,hr,hK⟩:=hv
  let ⟨v,hv,Vh⟩:=jJ _ Sl hr
  refine bh (s:=Instr.extract (a.eval x) i) (by simp[execOp,ho]) ?_ (Ag.same h Vh hK);have X7:us[i]? = some v:=by simpa using hv
  rw[hq];simp only[Instr.extract,X7];rfl
 ·exact hv.elim
end
end Go.Sx
namespace Go.Sx
section
variable {P:Program} {B:dN} {Pe:FuncId->ci} {m:aN} {sl:List ak} {lh:List ar} {w:World} {a:Act} {o:Oper} {pl:Option Nat} {PR:ak->List ar->Prop}
theorem eF {b:Builtin} {c:Call} {s:Sem Value} {v:Value} {w':World} {QW:Value->World->Prop} (ho:o.op=.call c) (hc:c.callee=.builtin b)
 (hb:∀cs,builtin b c.argTypes o.type cs (c.args.map a.eval)=(do pure (.value (← s)))) (hs:s.run P w=.ok v w') (hR:QW v w'):dA P o a w QW:=by
 refine .inl ⟨v,w',?_,hR⟩;simp only[execOp,ho];rw[af (a:={ target:=.builtin b c.argTypes o.type (c.args.map λ|.const _=>true|_=>false),args:=c.args.map a.eval }) (w':=w) (by simp only[resolve,hc];rfl)];simp only[invoke,hb];rw[af hs];rfl
theorem yab {c:Call} {t e:TypeId} {x:Operand} (ho:o.op=.call c) (hc:c.callee=.builtin .len) (ht:c.argTypes.toList=[t]) (hx:c.args.toList=[x])
 (hu:P.underlying t=some (.slice e)) (hs:aE m sl a.tmps.toList) (h:bk B m lh w) (hv:dK B.w0 Pe sl lh pl PR (.len (bn x))):dA P o a w (Ag B m lh PR):=by
 have e1:c.argTypes=#[t]:=by rw[← Eu,ht]
 have e2:c.args=#[x]:=by rw[← Eu,hx]
 have TE:=bd hs x;simp[dK]at hv;split at hv
 ·rename_i p n c' hp
  rw[hp]at TE
  let ⟨PX,hq,_⟩:=gE TE
  refine eF (s:=Builtin.len_ #[t] o.type #[a.eval x]) ho hc (λcs=>by rw[e1,e2];simp[builtin]) ?_ (Ag.same h vI hv);unfold Builtin.len_;rw[hq];show((underlying t >>= _:Sem Value)).run P w=_;rw[af (aP hu w)];rfl
 ·exact hv.elim
theorem hts {c:Call} {t:TypeId} {x:Operand} (ho:o.op=.call c) (hc:c.callee=.builtin .len) (ht:c.argTypes.toList=[t]) (hx:c.args.toList=[x])
 (hu:P.underlying t=some .string) (hs:aE m sl a.tmps.toList) (h:bk B m lh w) (hv:dK B.w0 Pe sl lh pl PR (.lenT (bn x))):dA P o a w (Ag B m lh PR):=by
 have e1:c.argTypes=#[t]:=by rw[← Eu,ht]
 have e2:c.args=#[x]:=by rw[← Eu,hx]
 have TE:=bd hs x;simp[dK]at hv;split at hv
 ·rename_i s hp;rw[hp]at TE;refine eF (s:=Builtin.len_ #[t] o.type #[a.eval x]) ho hc (λcs=>by rw[e1,e2];simp[builtin]) ?_ (Ag.same h vI hv);unfold Builtin.len_;rw[pJ TE];show((underlying t >>= _:Sem Value)).run P w=_;rw[af (aP hu w)];rfl
 ·exact hv.elim
theorem hsi {c:Call} {t e:TypeId} {x:Operand} {n:Nat} (ho:o.op=.call c) (hc:c.callee=.builtin .len) (ht:c.argTypes.toList=[t]) (hx:c.args.toList=[x])
 (hu:P.underlying t=some (.array n e)) (h:bk B m lh w) (hv:dK B.w0 Pe sl lh pl PR (.lenA n)):dA P o a w (Ag B m lh PR):=by
 have e1:c.argTypes=#[t]:=by rw[← Eu,ht]
 have e2:c.args=#[x]:=by rw[← Eu,hx]
 simp[dK]at hv;refine eF (s:=Builtin.len_ #[t] o.type #[a.eval x]) ho hc (λcs=>by rw[e1,e2];simp[builtin]) ?_ (Ag.same h vI hv);unfold Builtin.len_;show((underlying t >>= _:Sem Value)).run P w=_;rw[af (aP hu w)];rfl
theorem ic10 {k:IntKind} {x y:Int} (w:World):(Builtin.max2 (.int k x) (.int k y)).run P w=.ok (.int k (max x y)) w:=by
 have:(if y > x then y else x)=max x y:=by split<;>omega
 simp only[Builtin.max2,this];rfl
theorem hw' {k:IntKind} {x y:Int} (w:World):(Builtin.min2 (.int k x) (.int k y)).run P w=.ok (.int k (min x y)) w:=by
 have:(if y<x then y else x)=min x y:=by split<;>omega
 simp only[Builtin.min2,this];rfl
theorem fy3 {K':ak->Prop}:∀ (b:Bool) (ys:List ak) (vs:List Value) (x:ak) (u:Value) (w:World),aE m ys vs->AW m x u->mm2 b x ys K' ->
 ∃r v,AW m r v/\K' r/\(vs.foldlM (if b then Builtin.max2 else Builtin.min2) u:Sem Value).run P w=.ok v w
 |b,[],vs,x,u,w,hv,hx,hm=>by simp[aE]at hv;subst hv;exact⟨x,u,hx,by cases x<;>exact hm,rfl⟩
 |b,y::ys,vs,x,u,w,hv,hx,hm=>by
   simp[aE]at hv;obtain⟨v,vs,rfl,hy,hv⟩:=hv;unfold mm2 at hm;split at hm
   ·rename_i e;cases e
   ·rename_i k p k' PX ys' e
    cases e
    let ⟨rfl,hm⟩:=hm
    rw[fY hx,fY hy]
    let ⟨r,z,M,Q,h3⟩:=fy3 b ys vs (.int k (if b then max p PX else min p PX)) (.int k (if b then max p PX else min p PX)) w hv vI hm
    refine⟨r,z,M,Q,?_⟩;rw[List.foldlM_cons];cases b
    ·simp only[Dy,Da]at h3 ⊢;rw[af (hw' w)];exact h3
    ·simp only[Dk]at h3 ⊢;rw[af (ic10 w)];exact h3
   ·exact hm.elim
theorem fu9 {c:Call} {b:Bool} {x y:Operand} {xs:List Operand} (ho:o.op=.call c) (hc:c.callee=.builtin (if b then .max else .min)) (hx:c.args.toList=x::y::xs)
 (hs:aE m sl a.tmps.toList) (h:bk B m lh w) (hv:dK B.w0 Pe sl lh pl PR (.mm b (bn x) ((y::xs).map bn))):dA P o a w (Ag B m lh PR):=by
 simp only[dK]at hv
 let ⟨r,v,M,Q,h3⟩:=fy3 (P:=P) b _ _ _ _ w (iC hs (y::xs)) (bd hs x) hv
 have e2:(c.args.map a.eval).toList=a.eval x::(y::xs).map a.eval:=by rw[Fi,hx];rfl
 cases b
 ·refine eF (s:=Builtin.min_ c.argTypes o.type (c.args.map a.eval)) ho hc (λcs=>rfl) ?_ (Ag.same h M Q);unfold Builtin.min_;rw[e2];exact h3
 ·refine eF (s:=Builtin.max_ c.argTypes o.type (c.args.map a.eval)) ho hc (λcs=>rfl) ?_ (Ag.same h M Q);unfold Builtin.max_;rw[e2];exact h3
theorem C9 {x:Option ak} {u:Option Value} {y d:Nat} {K':Nat->Prop} (w:World) (hx:match x,u with|none,none=>True|some x,some u=>AW m x u|_,_=>False) (h:bnd x y d K') :
 ∃n,K' n/\(u=none->n=d)/\∀v code,u=some v->(Instr.sliceBound v y code).run P w=.ok n w:=by
 cases x with
 |none=>
   cases u with
   |none=>exact⟨d,h,λ_=>rfl,λv _ hv=>by cases hv⟩|some u=>exact hx.elim
 |some x=>
   cases u with
   |none=>exact hx.elim
   |some u=>
     simp[bnd]at h;split at h
     ·rename_i e;cases e
     ·rename_i k i e
      cases e
      let ⟨M,Q,h3⟩:=h
      refine⟨i.toNat,h3,λe=>(by cases e),λv code hv=>?_⟩;cases hv;rw[fY hx];unfold Instr.sliceBound;rw[af (a:=(k,i)) (w':=w) rfl];dsimp only
      rw[Ad ⟨M,Q⟩];rfl
     ·exact h.elim
theorem Cb (hs:aE m sl a.tmps.toList) (x:Option Operand):match (x.map bn).map (arg sl),x.map a.eval with|none,none=>True|some x,some u=>AW m x u|_,_=>False:=by
 cases x with
 |none=>trivial|some x=>exact bd hs x
theorem rK {b:Bool} {n c:Nat} {lo hi mx:Option Operand} {K':Nat->Nat->Nat->Prop} (Ve:¬ (mx.isSome=true/\hi.isSome=false)) (hs:aE m sl a.tmps.toList) (w:World)
 (h:bnd ((mx.map bn).map (arg sl)) c c λmm=>bnd ((hi.map bn).map (arg sl)) mm n λhh=>bnd ((lo.map bn).map (arg sl)) hh 0 λl=>K' l hh mm) :
 ∃l hh mm,K' l hh mm/\(Instr.sliceBounds b n c (lo.map a.eval) (hi.map a.eval) (mx.map a.eval)).run P w=.ok (l,hh,mm) w:=by
 let ⟨mm,h,m1,m2⟩:=C9 (P:=P) w (Cb hs mx) h
 let ⟨hh,h,M,Q⟩:=C9 (P:=P) w (Cb hs hi) h
 let ⟨l,h,l1,l2⟩:=C9 (P:=P) w (Cb hs lo) h
 refine⟨l,hh,mm,h,?_⟩;unfold Instr.sliceBounds;cases mx with
 |none=>
   obtain rfl:=m1 rfl;cases hi with
   |none=>
     obtain rfl:=M rfl;cases lo with
     |none=>obtain rfl:=l1 rfl;simp only[J9,pure_bind];rfl|some x=>simp only[J9,DK,pure_bind];rw[af (l2 _ _ rfl)];rfl
   |some y=>
     cases lo with
     |none=>obtain rfl:=l1 rfl;simp only[J9,DK,pure_bind];rw[af (Q _ _ rfl)];rfl|some x=>simp only[J9,DK,pure_bind];rw[af (Q _ _ rfl),af (l2 _ _ rfl)];rfl
 |some z=>
   cases hi with
   |none=>exact(Ve ⟨rfl,rfl⟩).elim
   |some y=>
     cases lo with
     |none=>obtain rfl:=l1 rfl;simp only[J9,DK,pure_bind];rw[af (m2 _ _ rfl),af (Q _ _ rfl)];rfl|some x=>simp only[DK];rw[af (m2 _ _ rfl),af (Q _ _ rfl),af (l2 _ _ rfl)];rfl
theorem hi0 {p:Option js} {PX:Option Addr} (h:ef m p PX) (c:Prop) [Decidable c] (n:Nat):ef m (if c then p else p.map (js.add · n)) (if c then PX else PX.map (·.add n)):=by
 split
 ·exact h
 ·cases p with|none=>simp[ef]at h;subst h;rfl|some p=>obtain⟨ad,rfl,Q⟩:=sX h n;exact Q
theorem io5 {t e:TypeId} {x:Operand} {lo hi mx:Option Operand} {esz:Nat} (ho:o.op=.slice t x lo hi mx) (Ve:¬ (mx.isSome=true/\hi.isSome=false)) (hu:P.underlying t=some (.slice e)) (he:eI P e=some esz)
 (hs:aE m sl a.tmps.toList) (h:bk B m lh w) (hv:dK B.w0 Pe sl lh pl PR (.slS esz (bn x) (lo.map bn) (hi.map bn) (mx.map bn))):dA P o a w (Ag B m lh PR):=by
 have hx:=bd hs x;simp only[dK]at hv;split at hv
 ·rename_i p n c hp
  rw[hp]at hx
  let ⟨PX,hq,Ro⟩:=gE hx
  let ⟨l,hh,mm,hK,hrun⟩:=rK (P:=P) (b:=true) Ve hs w hv
  refine bh (s:=Instr.sliceAt t (a.eval x) (lo.map a.eval) (hi.map a.eval) (mx.map a.eval)) (v:=.slice (if mm=l then PX else PX.map (·.add (l*esz))) (hh-l) (mm-l)) (by simp[execOp,ho]) ?_ (Ag.same h ?_ hK)
  ·unfold Instr.sliceAt
   rw[af (aP hu w)];dsimp only
   unfold Instr.slice;rw[af (aP hu w),hq];dsimp only
   rw[af hrun];dsimp only
   rw[af (run_sizeOf he w)];rfl
  ·simp only[AW];exact⟨_,rfl,hi0 Ro _ _⟩
 ·exact hv.elim
theorem jf3 {t e:TypeId} {x:Operand} {lo hi mx:Option Operand} {n esz:Nat} (ho:o.op=.slice t x lo hi mx) (Ve:¬ (mx.isSome=true/\hi.isSome=false)) (hu:P.underlying t=some (.array n e)) (he:eI P e=some esz)
 (hs:aE m sl a.tmps.toList) (h:bk B m lh w) (hv:dK B.w0 Pe sl lh pl PR (.slA n esz (bn x) (lo.map bn) (hi.map bn) (mx.map bn))):dA P o a w (Ag B m lh PR):=by
 have hx:=bd hs x;simp only[dK]at hv;split at hv
 ·rename_i p hp
  rw[hp]at hx
  let ⟨PX,hq,Ro⟩:=j8 hx
  let ⟨l,hh,mm,hK,hrun⟩:=rK (P:=P) (b:=false) Ve hs w hv
  obtain⟨ad,rfl,Uk⟩:=R58 Ro;refine bh (s:=Instr.sliceAt t (a.eval x) (lo.map a.eval) (hi.map a.eval) (mx.map a.eval)) (v:=.slice (some (if mm=l then ad else ad.add (l*esz))) (hh-l) (mm-l)) (by simp[execOp,ho]) ?_ (Ag.same h ?_ hK)
  ·unfold Instr.sliceAt
   rw[af (aP hu w)];dsimp only
   rw[hq,af (a:=ad) (w':=w) rfl,af hrun];dsimp only
   rw[af (run_sizeOf he w)];rfl
  ·simp only[AW]
   refine⟨_,rfl,?_⟩;have:=hi0 Uk (mm=l) (l*esz);by_cases e:mm=l
   ·simpa[e] using this
   ·simpa[e] using this
 ·exact hv.elim
theorem t44 {t:TypeId} {x:Operand} {lo hi:Option Operand} (ho:o.op=.slice t x lo hi none) (hu:P.underlying t=some .string)
 (hs:aE m sl a.tmps.toList) (h:bk B m lh w) (hv:dK B.w0 Pe sl lh pl PR (.slT (bn x) (lo.map bn) (hi.map bn))):dA P o a w (Ag B m lh PR):=by
 have hx:=bd hs x;simp only[dK]at hv;split at hv
 ·rename_i s hp
  rw[hp]at hx
  let ⟨l,hh,mm,hK,hrun⟩:=rK (P:=P) (b:=false) (n:=s.size) (c:=s.size) (mx:=none) (K':=λl h _=>PR (.str (s.extract l h)) lh) au hs w hv
  refine bh (s:=Instr.sliceAt t (a.eval x) (lo.map a.eval) (hi.map a.eval) none) (v:=.string (s.extract l hh)) (by simp only[execOp,ho];rfl) ?_ (Ag.same h hk' hK);unfold Instr.sliceAt;rw[af (aP hu w)];dsimp only
  unfold Instr.slice;rw[af (aP hu w),pJ hx];simp only[Option.isSome_none,Dy,Da];rw[J9]at hrun;rw[af hrun];rfl
 ·exact hv.elim
end
end Go.Sx
namespace Go.Sx
section
variable {P:Program} {B:dN} {Pe:FuncId->ci} {m:aN} {sl:List ak} {lh:List ar} {w:World} {a:Act} {o:Oper} {pl:Option Nat} {PR:ak->List ar->Prop}
theorem hl0 (z:List Value):∀ n,(List.range (n*z.length)).map (λi=>z[i % z.length]!)=(List.replicate n z).flatten
 |0=>by simp
 |n+1=>by
   rw[IB,Jn,← hl0 z n,DO,Ig,List.range_add,List.map_append];congr 1
   ·apply List.ext_getElem
    ·simp
    ·intro i M Q;simp at M;simp[Jp M,M]
   ·rw[List.map_map];apply Iu;intro i _;simp
theorem hh' (z:Array Value) (n:Nat):(Builtin.zeroCells z n).toList=(List.replicate n z.toList).flatten:=by
 unfold Builtin.zeroCells;rw[Fi];have:(Array.range (n*z.size)).toList=List.range (n*z.size):=by simp
 rw[this,← hl0,Iw];apply Iu;intro x _;rw[Array.getElem!_eq_getD,List.getElem!_eq_getElem?_getD,Array.getElem?_toList,MN]
theorem fF {z:List ak} {vs:List Value} (h:aE m z vs):∀ n,aE m (List.replicate n z).flatten (List.replicate n vs).flatten
 |0=>by simp[aE]
 |n+1=>by simp[IB,Jn];exact Fy h (fF h n)
theorem nd (h:bk B m lh w) {p:Option js} {PX:Option Addr} (hq:ef m p PX) {size n k c:Nat} {xs:List ak} (hx:cellsOf B.w0 lh p (n*size)=some xs) :
 ∃vs,(Builtin.firstCells size n (.slice PX k c)).run P w=.ok vs w/\aE m xs vs.toList:=by
 cases p with
 |none=>simp[ef]at hq;subst hq;simp[cellsOf,Ak]at hx;subst hx;exact⟨#[],rfl,by simp[aE]⟩
 |some p=>obtain⟨ad,vs,rfl,hrun,hr⟩:=uv (P:=P) h hq hx;exact⟨vs,hrun,hr⟩
theorem mQ {t u e e' ty:TypeId} {n c k c2 sz:Nat} {ps qs:Option Addr} {nv:Array Value} {w':World} (hu:P.underlying t=some (.slice e)) (UP:P.underlying u=some (.slice e')) (Qu:eI P e=some sz)
 (hcap:n+k<=c) (hn:(Builtin.firstCells sz k (.slice qs k c2)).run P w=.ok nv w)
 (Qe:(match ps with|some ad=>storeCells (ad.add (n*sz)) nv.toList|none=>pure ()).run P w=.ok () w') :
 (Builtin.append_ #[t,u] ty #[.slice ps n c,.slice qs k c2]).run P w=.ok (.slice ps (n+k) c) w':=by
 simp only[Builtin.append_,Ji,E9,EA];rw[af (aP hu w)];dsimp only
 rw[af (run_sizeOf Qu w),af (aP UP w),pure_bind];simp only[Dy,Da,Builtin.lenOf,pure_bind,Ff,Dk];rw[Ad hcap,af hn];cases ps with
 |none=>have hst':Result.ok () w=Result.ok () w':=Qe;cases hst';rfl
 |some ad=>simp only at Qe ⊢;rw[af Qe];rfl
theorem fza8 {t u e e' ty:TypeId} {n c k c2:Nat} {ps qs:Option Addr} {ov nv:Array Value} {i:TypeInfo} {z:Value} (hu:P.underlying t=some (.slice e)) (UP:P.underlying u=some (.slice e')) (hi:P.info? e=some i)
 (hz:i.zero=some z) (hcap:¬n+k<=c) (hbytes:Builtin.nextslicecap (n+k) c*i.bytes<=2 ^ 48) (hbig:((n+k:Nat):Int)<=IntKind.i64.max∨i.bytes≠0)
 (izb0:(Builtin.firstCells i.size n (.slice ps n c)).run P { w with drawn:=w.drawn+1 }=.ok ov { w with drawn:=w.drawn+1 })
 (hn:(Builtin.firstCells i.size k (.slice qs k c2)).run P { w with drawn:=w.drawn+1 }=.ok nv { w with drawn:=w.drawn+1 }) :
 ∃ nc,n+k<=nc/\(Builtin.append_ #[t,u] ty #[.slice ps n c,.slice qs k c2]).run P w =
  .ok (.slice (some ⟨w.heap.size,0,none⟩) (n+k) nc) { w with drawn:=w.drawn+1,heap:=w.heap.push (.cells (ov++nv++Builtin.zeroCells z.cells (nc-(n+k))) e (0,0)) }:=by
 have Qu:eI P e=some i.size:=by simp[eI,hi]
 refine⟨(Question.appendCap (n+k) c e).cut (w.tape w.drawn (.appendCap (n+k) c e)),by simp only[Question.cut];omega,?_⟩;generalize TS:(Question.appendCap (n+k) c e).cut (w.tape w.drawn (.appendCap (n+k) c e))=nc;have S4:(choose (.appendCap (n+k) c e)).run P w=.ok nc { w with drawn:=w.drawn+1 }:=by rw[← TS];rfl
 have hask:(askRoom (nc*i.bytes)).run P { w with drawn:=w.drawn+1 }=.ok () { w with drawn:=w.drawn+1 }:=by unfold askRoom;split<;>rfl
 have YI:(zeroValue e).run P { w with drawn:=w.drawn+1 }=.ok z { w with drawn:=w.drawn+1 }:=by unfold zeroValue;rw[af (eo hi _)];simp only[hz];rfl
 simp only[Builtin.append_,Ji,E9,EA];rw[af (aP hu w)];dsimp only
 rw[af (run_sizeOf Qu w),af (aP UP w),pure_bind];simp only[Dy,Da,Builtin.lenOf,pure_bind,Ff,Dk,false_or];rw[AU hcap,af (eo hi w),AU (by rintro⟨M,Q⟩;rcases hbig with h|h<;>omega),af (eo hi w),AU K];rw[af S4,af (eo hi _),af hask,af izb0,af hn,af YI,af (lA _)];rfl
theorem in6 {c:Call} {t u e e':TypeId} {s x:Operand} {i:TypeInfo} {z:Value} (ho:o.op=.call c) (hc:c.callee=.builtin .append) (ht:c.argTypes.toList=[t,u]) (hx:c.args.toList=[s,x])
 (hu:P.underlying t=some (.slice e)) (UP:P.underlying u=some (.slice e')) (hi:P.info? e=some i) (hz:i.zero=some z) (hs:aE m sl a.tmps.toList) (h:bk B m lh w)
 (hv:dK B.w0 Pe sl lh pl PR (.app e i.size i.bytes (z.cells.toList.map bV) (bn s) (bn x))):dA P o a w (Ag B m lh PR):=by
 have e1:c.argTypes=#[t,u]:=by rw[← Eu,ht]
 have e2:c.args=#[s,x]:=by rw[← Eu,hx]
 have Qu:eI P e=some i.size:=by simp[eI,hi]
 have SX:=bd hs s;have TE:=bd hs x;simp[dK]at hv;generalize arg sl (bn s)=az at hv SX;generalize arg sl (bn x)=ax at hv TE;unfold tY at hv;split at hv
 ·rename_i p n c' PX k c''
  let ⟨ps,X4,X3⟩:=gE SX
  let ⟨qs,new7,hqq⟩:=gE TE
  let ⟨new,hnew,RV,hgrow⟩:=hv
  have hpre:∀ {v:Value} {w':World},(Builtin.append_ #[t,u] o.type #[.slice ps n c',.slice qs k c'']).run P w=.ok v w'->Ag B m lh PR v w'->dA P o a w (Ag B m lh PR):=λhR hP=>
   eF (s:=Builtin.append_ #[t,u] o.type #[a.eval s,a.eval x]) ho hc (λcs=>by rw[e1,e2];simp[builtin]) (by rw[X4,new7];exact hR) hP
  by_cases hcap:n+k<=c'
  ·replace RV:=RV hcap
   let ⟨nv,hnrun,X0⟩:=nd (P:=P) (k:=k) (c:=c'') h hqq hnew
   split at RV
   ·rename_i b off
    let ⟨cs,ty,hk,hone,Qm,hK⟩:=RV
    obtain⟨b',hb,rfl⟩:=X3;have hones:∀ y∈nv.toList,nI y=true:=by
     have:AW m (.agg new) (.agg nv):=by simp only[AW];exact⟨_,rfl,X0⟩
     exact(oe this (by simpa[ak.flat] using hone)).2
    let ⟨w',hrun,hrel⟩:=bk.stores (P:=P) (off:=off+n*i.size) hb new nv.toList cs lh w 0 h hk K X0 hones
    refine hpre (mQ (w':=w') hu UP Qu hcap hnrun ?_) (Ag.store hk hrel ?_ hK)
    ·simp only;rw[nD];exact hrun
    ·simp only[AW];exact⟨_,rfl,_,hb,rfl⟩
   ·simp[ef]at X3;subst X3;exact hpre (mQ (w':=w) hu UP Qu hcap hnrun rfl) (Ag.same h (by simp only[AW];exact⟨_,rfl,rfl⟩) RV)
   ·rename_i ad;obtain⟨rfl,hK⟩:=RV;simp[aE]at X0;simp[ef]at X3;subst X3;refine hpre (mQ (w':=w) hu UP Qu hcap hnrun ?_) (Ag.same h (by simp only[AW];exact⟨_,rfl,rfl⟩) hK);simp only;rw[X0];unfold storeCells;rfl
  ·let ⟨old,hold,hbytes,hbig,hK⟩:=hgrow K
   have n2:=h.drew (w.drawn+1)
   let ⟨nv,hnrun,X0⟩:=nd (P:=P) (k:=k) (c:=c'') n2 hqq hnew
   let ⟨ov,horun,iza9⟩:=nd (P:=P) (k:=n) (c:=c') n2 X3 hold
   let ⟨nc,TS,hrun⟩:=fza8 (P:=P) (ty:=o.type) hu UP hi hz hcap hbytes hbig horun hnrun
   have S7:=hK nc TS;have hall:aE m (old++new++(List.replicate (nc-(n+k)) (z.cells.toList.map bV)).flatten) (ov++nv++Builtin.zeroCells z.cells (nc-(n+k))).toList:=by rw[KW,KW,hh'];exact Fy (Fy iza9 X0) (fF (cz m z.cells.toList) _)
   let ⟨p',m',lh',g1,g2,g3,g4⟩:=iH n2 hall S7
   exact hpre hrun ⟨_,m',lh',by simp only[AW];exact⟨_,rfl,_,g1,rfl⟩,g2,g3,g4⟩
 ·exact hv.elim
theorem ih10 {z:List Value} (h:z.all nI=true) (n:Nat):∀ u∈(List.replicate n z).flatten,nI u=true:=λu hu=>by
 let ⟨l,hl,hu⟩:=List.mem_flatten.1 hu
 rw[(List.mem_replicate.1 hl).2]at hu;exact List.all_eq_true.1 h u hu
theorem yaM {c:Call} {t e:TypeId} {x:Operand} {i:TypeInfo} {z:Value} (ho:o.op=.call c) (hc:c.callee=.builtin .clear) (ht:c.argTypes.toList=[t]) (hx:c.args.toList=[x])
 (hu:P.underlying t=some (.slice e)) (hi:P.info? e=some i) (hz:i.zero=some z) (M:z.cells.size=i.size) (Q:z.cells.toList.all nI=true) (hs:aE m sl a.tmps.toList) (h:bk B m lh w)
 (hv:dK B.w0 Pe sl lh pl PR (.clr i.size (z.cells.toList.map bV) (bn x))):dA P o a w (Ag B m lh PR):=by
 have e1:c.argTypes=#[t]:=by rw[← Eu,ht]
 have e2:c.args=#[x]:=by rw[← Eu,hx]
 have TE:=bd hs x;simp[dK]at hv;split at hv
 ·rename_i k off n c' hp
  rw[hp]at TE
  let ⟨PX,hq,Ro⟩:=gE TE
  obtain⟨b,hb,rfl⟩:=Ro
  let ⟨cs,ty,hk,hn,Qm,hK⟩:=hv
  have hrel:=fF (m:=m) (cz m z.cells.toList) n;have hl:=c9 hrel
  let ⟨w',hrun,hrel'⟩:=bk.stores (P:=P) (off:=off) hb (List.replicate n (z.cells.toList.map bV)).flatten (List.replicate n z.cells.toList).flatten cs lh w 0 h hk (by rw[Ej,← hl];simp;rw[M];omega) hrel (ih10 Q n)
  refine eF (s:=Builtin.clear_ #[t] o.type #[a.eval x]) (w':=w') ho hc (λcs=>by rw[e1,e2];simp[builtin]) ?_ (Ag.store (r:=.tup []) (v:=.tuple #[]) hk hrel' (by simp[AW,aE]) hK);unfold Builtin.clear_;rw[hq];have YI:(zeroValue e).run P w=.ok z w:=by unfold zeroValue;rw[af (eo hi _)];simp only[hz];rfl
  obtain⟨n,rfl⟩:∃n',n=n'+1:=⟨n-1,K⟩;simp only[Ji,E9];rw[af (aP hu w)];show(do let iza22 ← zeroValue e;storeCells ⟨b,off,none⟩ (Builtin.zeroCells iza22.cells (n+1)).toList;pure (Value.tuple #[]):Sem Value).run P w=_;rw[af YI,hh',af hrun];rfl
 ·rename_i p n c' izb22 hp
  rw[hp]at TE
  let ⟨PX,hq,Ro⟩:=gE TE
  obtain⟨rfl,hK⟩:=hv;refine eF (s:=Builtin.clear_ #[t] o.type #[a.eval x]) ho hc (λcs=>by rw[e1,e2];simp[builtin]) ?_ (Ag.same h (by simp[AW,aE]:AW m (.tup []) (.tuple #[])) hK);unfold Builtin.clear_;rw[hq];simp only[Ji,E9];rw[af (aP hu w)];cases PX<;>rfl
 ·exact hv.elim
theorem hxx {c : Call} {f : FuncId} {fn : Func} (hS : ∀ f, (Pe f).Sound P f) (ho : o.op = .call c) (hc : c.callee = .value (.func f)) (hf : P.funcs[f]? = some fn) (hn : (fn.name == "runtime.NumGoroutine") = false) (hb : fn.body.isNone = false)
 (hs:aE m sl a.tmps.toList) (h:bk B m lh w) (hv:dK B.w0 Pe sl lh pl PR (.call f (c.args.toList.map bn))):dA P o a w (Ag B m lh PR):=by
 simp only[dK]at hv
 let ⟨_,hcall⟩:=hS f B m lh w _ _ PR h (iC hs c.args.toList) hv
 refine .inr (.inr ⟨f,((c.args.toList.map a.eval)).toArray,?_,hcall.mono λe w' ⟨v,r,m',lh',M,Q,h3,h4,h5⟩=>⟨v,M,r,m',lh',Q,h3,h4,h5⟩⟩)
 simp only[execOp,ho]
 rw[af (a:={ target:=.fn (.func f) #[],args:=#[]++c.args.map a.eval }) (w':=w) (by simp only[resolve,hc,Act.eval];rfl)]
 simp only[invoke,callFunc]
 rw[af (a:=P) (w':=w) rfl,hf]
 simp only[hn,hb,Dy,Da]
 have:#[]++c.args.map a.eval++#[]=(c.args.toList.map a.eval).toArray:=by
  apply Array.toList_inj.1;simp
 rw[this];rfl
theorem hr' {c:Call} {x:Operand} (hS:∀ f,(Pe f).Sound P f) (ho:o.op=.call c) (hc:c.callee=.value x)
 (hs:aE m sl a.tmps.toList) (h:bk B m lh w) (hv:dK B.w0 Pe sl lh pl PR (.callv (bn x) (c.args.toList.map bn))):dA P o a w (Ag B m lh PR):=by
 have hx:=bd hs x;simp only[dK]at hv;split at hv
 ·rename_i f xs ys hp
  rw[hp]at hx;simp only[AW]at hx
  let ⟨us,vs,hq,M,Q⟩:=hx
  let ⟨⟨fn,hf,hn,hb⟩,hcall⟩:=hS f B m lh w _ _ PR h (Fy (Fy M (iC hs c.args.toList)) Q) hv
  refine .inr (.inr ⟨f,_,?_,hcall.mono λe w' ⟨v,r,m',lh',M,Q,h3,h4,h5⟩=>⟨v,M,r,m',lh',Q,h3,h4,h5⟩⟩);simp only[execOp,ho];rw[af (a:={ target:=.fn (.func f) vs,args:=us++c.args.map a.eval }) (w':=w) (by simp only[resolve,hc,hq];rfl)];simp only[invoke,callFunc];rw[af (a:=P) (w':=w) rfl,hf];simp only[hn,hb,Dy,Da];have:us++c.args.map a.eval++vs=(us.toList++c.args.toList.map a.eval++vs.toList).toArray:=by apply Array.toList_inj.1;simp
  rw[this];rfl
 ·exact hv.elim
theorem iw2 {t e:TypeId} {k k':IntKind} {n:Int} {i:TypeInfo} {z:Value} (ho:o.op=.makeSlice t (.const (.int k n)) (.const (.int k' n))) (hu:P.underlying t=some (.slice e)) (hi:P.info? e=some i) (hz:i.zero=some z)
 (hn:0<n) (V9:n<=1000) (hb:(i.bytes:Int)*n<=2 ^ 40) (h0:i.size≠0) (h:bk B m lh w)
 (hv:dK B.w0 Pe sl lh pl PR (.mks e n.toNat (((List.range (n.toNat*i.size)).map (z.cells[· % z.cells.size]!)).map bV))):dA P o a w (Ag B m lh PR):=by
 have Qu:eI P e=some i.size:=by simp[eI,hi]
 simp only[dK]at hv
 let ⟨p,m',lh',g1,g2,g3,g4⟩:=iH h (vs:=((List.range (n.toNat*i.size)).map (z.cells[· % z.cells.size]!)).toArray) (by simpa using cz m ((List.range (n.toNat*i.size)).map (z.cells[· % z.cells.size]!))) hv
 refine bh (s:=Instr.makeSlice t (.int k n) (.int k' n)) (v:=.slice (some ⟨w.heap.size,0,none⟩) n.toNat n.toNat) (by simp only[execOp,ho];rfl) ?_ ⟨_,m',lh',by simp only[AW];exact⟨_,rfl,_,g1,rfl⟩,g2,g3,g4⟩;have hw:IntKind.i64.wrap n=n:=by have M:n % (2 ^ 64:Int)=n:=Int.emod_eq_of_lt K K;simp only[IntKind.wrap,IntKind.bits,IntKind.signed,M];rw[AU (by simp;omega)]
 have YI:(zeroValue e).run P w=.ok z w:=by unfold zeroValue;rw[af (eo hi _)];simp only[hz];rfl
 have hask:(askRoom (n.toNat*i.bytes)).run P w=.ok () w:=by unfold askRoom;split<;>rfl
 unfold Instr.makeSlice;rw[af (aP hu w)];dsimp only
 rw[af (a:=n) (w':=w) rfl,af (a:=n) (w':=w) rfl,af (eo hi w)];simp only[hw];rw[AU (by simp;omega),af hask,af (run_sizeOf Qu w)];have RY:n.toNat*i.size≠0:=Nat.mul_ne_zero K h0;rw[AU RY,af YI,pure_bind,af (lA w)];have e:Array.map (λx=>z.cells[x % z.cells.size]!) (Array.range (n.toNat*i.size))=(List.map (λx=>z.cells[x % z.cells.size]!) (List.range (n.toNat*i.size))).toArray:=by apply Array.toList_inj.1;simp
 rw[e];rfl
theorem qm {AQ:List TypeId} {i:lZ} (hS:∀ f,(Pe f).Sound P f) (hE:∀ t∈AQ,dL P t) (hc:jH P AQ o=some i) (hs:aE m sl a.tmps.toList) (h:bk B m lh w) (hv:dK B.w0 Pe sl lh pl PR i) :
 dA P o a w (Ag B m lh PR):=by
 have Rw:=hc;cases ho:o.op<;>simp only[jH,ho]at hc<;>try (cases hc;done)
 case move x=>cases hc;exact ahD (.inl ho) hs h hv
 case assign x=>cases hc;exact ahD (.inr ho) hs h hv
 case pick c x y=>cases hc;exact hsb ho hs h hv
 case alloc t=>simp only[Bb]at hc;obtain⟨z,hz,rfl⟩:=hc;exact isq ho hz h hv
 case box t x=>cases hc;exact m72 ho hs h hv
 case build t ps=>exact hpq ho Rw hs h hv
 case buildSlice t n ps=>exact iu7 ho Rw hs h hv
 case load t x=>exact ag1 ho Rw hs h hv
 case store t x y=>simp[Bb]at hc;obtain⟨n,hn,rfl⟩:=hc;exact aj5 ho hn hs h hv
 case nilCheck x=>cases hc;exact aiV ho hs h hv
 case binOp op t x y u=>
  split at hc
  ·rename_i hu;cases hc;exact avw (neg:=false) rfl ho hu hs h hv
  ·rename_i hu;cases hc;exact avw (neg:=true) rfl ho hu hs h hv
  ·split at hc
   ·rename_i hm;simp[Bb]at hc;obtain⟨n,hn,rfl⟩:=hc;exact wM (neg:=false) hn rfl ho (hE t (by simpa using hm)) hs h hv
   ·cases hc
  ·split at hc
   ·rename_i hm;simp[Bb]at hc;obtain⟨n,hn,rfl⟩:=hc;exact wM (neg:=false) hn rfl ho (hE t (by simpa using hm)) hs h hv
   ·cases hc
  ·split at hc
   ·rename_i hm;simp[Bb]at hc;obtain⟨n,hn,rfl⟩:=hc;exact wM (neg:=true) hn rfl ho (hE t (by simpa using hm)) hs h hv
   ·cases hc
  ·split at hc
   ·rename_i hm;simp[Bb]at hc;obtain⟨n,hn,rfl⟩:=hc;exact wM (neg:=true) hn rfl ho (hE t (by simpa using hm)) hs h hv
   ·cases hc
  ·cases hc;exact avm ho hs h hv
  ·cases hc;exact avm ho hs h hv
  ·rename_i hu
   split at hc
   ·rename_i hy;cases hc;exact awb (neg:=false) rfl ho hu hy hs h hv
   ·cases hc
  ·rename_i hu
   split at hc
   ·rename_i hy;cases hc;exact awb (neg:=true) rfl ho hu hy hs h hv
   ·cases hc
  ·cases hc
 case unOp op t x=>cases hc;exact amF ho hs h hv
 case convert s d x=>
  split at hc
  ·rename_i ds k M Q;cases hc;exact i11 ho M Q hs h hv
  ·cases hc
 case makeFunc f xs ys=>cases hc;exact qhi ho hs h hv
 case fieldAddr t x j=>
  split at hc
  ·rename_i fs hu
   split at hc
   ·rename_i f hf
    split at hc
    ·rename_i n hn
     split at hc
     ·cases hc
     ·rename_i TO;cases hc;exact agK ho hu hf hn TO hs h hv
    ·cases hc
   ·cases hc
  ·cases hc
 case field t x j=>
  split at hc
  ·rename_i fs hu
   split at hc
   ·rename_i f hf;simp[Bb]at hc;obtain⟨n,hn,rfl⟩:=hc;exact yad ho hu hf hn hs h hv
   ·cases hc
  ·cases hc
 case indexAddr t x ix=>
  split at hc
  ·rename_i n e hu;simp[Bb]at hc;obtain⟨n,hn,rfl⟩:=hc;exact jf5 ho hu hn hs h hv
  ·rename_i e hu;simp[Bb]at hc;obtain⟨n,hn,rfl⟩:=hc;exact iz0 ho hu hn hs h hv
  ·cases hc
 case index t x ix=>
  split at hc
  ·rename_i n e hu
   split at hc
   ·rename_i s ag M Q;cases hc;exact ne1 ho hu M Q hs h hv
   ·cases hc
  ·rename_i hu;cases hc;exact x21 ho hu hs h hv
  ·cases hc
 case extract x j=>cases hc;exact nn0 ho hs h hv
 case makeInterface=>cases hc;simp[dK,KS,arg]at hv
 case panic=>cases hc;simp[dK,KS,arg]at hv
 case slice t x lo hi mx=>
  split at hc
  ·cases hc
  ·rename_i Ve
   have hmx':¬(mx.isSome=true/\hi.isSome=false):=by simpa using Ve
   split at hc
   ·rename_i e hu;simp[Bb]at hc;obtain⟨n,hn,rfl⟩:=hc;exact io5 ho hmx' hu hn hs h hv
   ·rename_i n e hu;simp[Bb]at hc;obtain⟨n,hn,rfl⟩:=hc;exact jf3 ho hmx' hu hn hs h hv
   ·rename_i hu
    split at hc
    ·cases hc
    ·rename_i hm
     cases mx with
     |none=>cases hc;exact t44 ho hu hs h hv|some x=>simp at hm
   ·cases hc
 case makeSlice t x y=>
  unfold avO at hc;split at hc
  ·rename_i k n k' n' e hu
   split at hc
   ·rename_i i hi
    split at hc
    ·rename_i z hz
     split at hc
     ·rename_i hcond;simp[Ae,DJ,bne_iff_ne]at hcond;obtain⟨⟨⟨⟨rfl,M⟩,Q⟩,h3⟩,h4⟩:=hcond;cases hc;exact iw2 ho hu hi hz M Q h3 h4 h hv
     ·cases hc
    ·cases hc
   ·cases hc
  ·cases hc
 case call c=>
  split at hc
  ·rename_i f hcal
   split at hc
   ·rename_i fn hf
    split at hc
    ·cases hc
    ·rename_i hcond;simp only[F9,not_or,Bool.not_eq_true]at hcond;cases hc;exact hxx hS ho hcal hf hcond.1 hcond.2 hs h hv
   ·cases hc
  ·rename_i x hcal;cases hc;exact hr' hS ho hcal hs h hv
  ·rename_i b hcal
   unfold hk1 at hc;split at hc
   ·rename_i t x ht hx
    split at hc
    ·rename_i e hu;cases hc;exact yab ho hcal ht hx hu hs h hv
    ·rename_i hu;cases hc;exact hts ho hcal ht hx hu hs h hv
    ·rename_i n e hu;cases hc;exact hsi ho hcal ht hx hu h hv
    ·cases hc
   ·rename_i x y xs hx;cases hc;exact fu9 (b:=true) ho hcal hx hs h hv
   ·rename_i x y xs hx;cases hc;exact fu9 (b:=false) ho hcal hx hs h hv
   ·rename_i t u s x ht hx
    split at hc
    ·rename_i e e' hu UP
     split at hc
     ·rename_i i hi
      split at hc
      ·rename_i z hz
       split at hc
       ·cases hc;exact in6 ho hcal ht hx hu UP hi hz hs h hv
       ·cases hc
      ·cases hc
     ·cases hc
    ·cases hc
   ·rename_i t x ht hx
    split at hc
    ·rename_i e hu
     split at hc
     ·rename_i i hi
      split at hc
      ·rename_i z hz
       split at hc
       ·rename_i hcond;simp only[Ae,DJ]at hcond;cases hc;exact yaM ho hcal ht hx hu hi hz hcond.1 hcond.2 hs h hv
       ·cases hc
      ·cases hc
     ·cases hc
    ·cases hc
   ·cases hc
  ·cases hc
end
end Go.Sx
namespace Go.Sx
structure jt where
 dst:Option Nat
 op:lZ
 guard:Option (Nat×Bool)
inductive Ex where|normal|exit (id:Nat)|ret
def fl (sl:List ak) (d:Option Nat) (v:ak):List ak :=
 match d with
 |some d=>sl.set d v|none=>sl
def fH (w0:World) (Pe:FuncId->ci):List jt->List ak->List ar->(List ak->List ar->Prop)->Prop
 |[],sl,lh,PR=>PR sl lh
 |o::rest,sl,lh,PR=>
   match o.guard with
   |none=>dK w0 Pe sl lh none (λv lh'=>fH w0 Pe rest (fl sl o.dst v) lh' PR) o.op
   |some (d,want)=>
     match sl.getD d .any with
     | .bool b=>(b=want->dK w0 Pe (sl.set d (.bool want)) lh none (λv lh'=>fH w0 Pe rest (fl (sl.set d (.bool want)) o.dst v) lh' PR) o.op) /\
        (b=!want->fH w0 Pe rest (fl (sl.set d (.bool (!want))) o.dst (.tup [])) lh PR)
     |.tup vs=>fH w0 Pe rest (fl (sl.set d (.tup vs)) o.dst (.tup [])) lh PR|.int ..=>fH w0 Pe rest (fl sl o.dst (.tup [])) lh PR|_=>False
def lT (P:Program) (AQ:List TypeId) (ops:Array Oper) (o:Oper):Option jt :=
 match jH P AQ o,o.guard with
 |some i,none=>some ⟨o.dst,i,none⟩
 |some i,some (j,want)=>match (ops[j]?).bind (·.dst) with|some d=>some ⟨o.dst,i,some (d,want)⟩|none=>none
 |none,_=>none
def fR (P:Program) (AQ:List TypeId) (ops:Array Oper):List Oper->Option (List jt)
 |[]=>some []
 |o::l=>match lT P AQ ops o,fR P AQ ops l with|some x,some xs=>some (x::xs)|_,_=>none
structure lC (F:Fence):Prop where
 fn:∀f,F.fn f
 depth:F.depth=none
 alive:F.alive=false
theorem lC.fenced {F:Fence} (h:lC F) (P:Program) (mc:Machine):mc.fenced P F:=λg _=>
 ⟨λe=>(by rw[h.alive]at e;cases e),.inl (h.fn _),λ_ _=>h.fn _,λd hd=>by rw[h.depth]at hd;cases hd⟩
theorem lC.steps {F:Fence} (h:lC F) {P:Program} {a b:Machine}:StepsIn (Machine.fenced P F) P a b↔Steps P a b :=
 ⟨StepsIn.steps,λk=>(StepsIn.of_steps k).mono λmc _=>h.fenced P mc⟩
theorem lC.calls {F:Fence} (h:lC F) {n:Nat} {P:Program} {f:FuncId} {args:Array Value} {w:World} {QW:Ending->World->Prop} (hc:Calls P f args w QW):CallsIn F n P f args w QW :=
 ⟨h.fn f,λcs _=>let ⟨e,w',fr,r,s,x⟩:=hc cs;⟨e,w',fr,r,by cases e with|returned v=>exact h.steps.2 s|panicked c=>exact h.steps.2 s|outgrown=>exact s,x⟩⟩
theorem hpR:lC Fence.wide:=⟨λ_=>trivial,rfl,rfl⟩
section
variable {P:Program} {B:dN} {Pe:FuncId->ci} {AQ:List TypeId} {F:Fence} {n:Nat} {ops:Array Oper}
theorem ig10 {o:Oper} {i:lZ} (hc:jH P AQ o=some i) (r:Option Nat) (ρ:Operand->Value):o.semAt r ρ=execOp ρ o:=by
 unfold Oper.semAt;split
 ·rename_i l d c ho;simp only[jH,ho]at hc;cases hc
 ·rfl
def kq (B:dN) (m:aN) (sl:List ak) (lh:List ar) (a:Act) (w:World):Prop:=aE m sl a.tmps.toList/\a.defers=B.ds/\bk B m lh w
theorem ae6 (a:Act) (d:Option Tmp) (v:Value):(a.put d v).tmps.toList=match d with|some d=>a.tmps.toList.set d v|none=>a.tmps.toList:=by cases d<;>simp[Act.put]
theorem kq.put {m m':aN} {sl:List ak} {lh lh':List ar} {a:Act} {w w':World} (h:kq B m sl lh a w) (hm:m.le m') (h':bk B m' lh' w') (d:Option Nat) {r:ak} {v:Value} (hr:AW m' r v) :
 kq B m' (fl sl d r) lh' (a.put d v) w':=by
 refine⟨?_,by cases d<;>exact h.2.1,h'⟩;rw[ae6];cases d with
 |none=>exact dc hm _ _ h.1|some d=>exact kZ d (dc hm _ _ h.1) hr
theorem jZ (hF:lC F) {o:Oper} {i:lZ} (hc:jH P AQ o=some i) {a:Act} {w:World} {QW:Value->World->Prop} {next:Act->World->Prop} {Pg:Exit->Act->World->Prop}
 (h:dA P o a w QW) (hn:∀v w',QW v w'->next (a.put o.dst v) w'):o.wpIn F n P a w next Pg:=by
 refine⟨λf _=>hF.fn f,?_⟩;rw[ig10 hc];rcases h with ⟨v,w',M,Q⟩|⟨w',M,Q⟩|⟨f,args,M,Q⟩
 ·rw[M];exact hn _ _ Q
 ·rw[M];exact hn _ _ Q
 ·rw[M];refine⟨λe=>(by rw[hF.depth]at e;cases e),hF.calls (Q.mono λe w' ⟨v,he,hR⟩=>?_)⟩;subst he;exact hn _ _ hR
theorem r9 {m:aN} {sl:List ak} {a:Act} (hs:aE m sl a.tmps.toList) {j d:Nat} (hj:(ops[j]?).bind (·.dst)=some d) :
 (∀b,sl.getD d .any=.bool b->yielded ops a.tmps j=some b)/\(∀vs,sl.getD d .any=.tup vs->yielded ops a.tmps j=none)/\(∀k n,sl.getD d .any=.int k n->yielded ops a.tmps j=none):=by
 have key:∀ x,sl.getD d .any=x->x≠.any->∃ v,a.tmps[d]? = some v/\AW m x v:=λx hx RY=>by
  cases hg:sl[d]? with
  |none=>simp[List.getD,hg]at hx;exact(RY hx.symm).elim
  |some y=>
    let ⟨v,hv,hr⟩:=jJ d hs hg
    simp[List.getD,hg]at hx;subst hx;exact⟨v,by simpa using hv,hr⟩
 refine⟨λb hb=>?_,λvs hb=>?_,λk n hb=>?_⟩<;>let ⟨v,hv,hr⟩:=key _ hb au<;>simp[yielded,hj,Option.bind_some,hv]
 ·rw[jD hr]
 ·simp[AW]at hr;obtain⟨us,rfl,_⟩:=hr;rfl
 ·rw[fY hr]
theorem JS {m:aN} {sl:List ak} {lh:List ar} {a:Act} {w:World} (h:kq B m sl lh a w) {d:Nat} {x:ak} (hx:sl.getD d .any=x):kq B m (sl.set d x) lh a w:=by
 refine⟨?_,h.2.1,h.2.2⟩;cases hg:sl[d]? with
 |none=>rw[List.set_eq_of_length_le (by simpa using hg)];exact h.1
 |some y=>
   simp[List.getD,hg]at hx;subst hx;have:sl.set d y=sl:=by
    apply ED;intro j;rw[Be];split
    ·rename_i e;subst e
     let ⟨M,Q⟩:=List.getElem?_eq_some_iff.1 hg
     simp[M,Q]
    ·rfl
   rw[this];exact h.1
theorem pX (hF:lC F) (hS:∀ f,(Pe f).Sound P f) (hE:∀ t∈AQ,dL P t) {Pg:Exit->Act->World->Prop} (rest:List Nat):∀ (l:List Oper) (xs:List jt) (k:Nat) (sl:List ak) (lh:List ar) (m:aN) (a:Act) (w:World) (PR:List ak->List ar->Prop),
 (∀j,j<l.length->l[j]? = ops[k+j]?)->fR P AQ ops l=some xs->fH B.w0 Pe xs sl lh PR->kq B m sl lh a w ->
 (∀sl' lh' m' a' w',kq B m' sl' lh' a' w'->jI lh m lh' m'->PR sl' lh'->wpOpsIn F n P ops Pg rest a' w')->wpOpsIn F n P ops Pg (List.range' k l.length++rest) a w
 |[],xs,k,sl,lh,m,a,w,PR,_,hc,hv,hs,hQ=>by simp[fR,Ak]at hc;subst hc;exact hQ _ _ _ _ _ hs (jI.refl _ _) hv
 |o::l,xs,k,sl,lh,m,a,w,PR,hl,hc,hv,hs,hQ=>by
   have h0:ops[k]? = some o:=by simpa using(hl 0 au).symm
   have RO:∀j,j<l.length->l[j]? = ops[k+1+j]? := λj hj=>by have:=hl (j+1) (by simpa using hj);simpa[H9,Ig 1 j] using this
   simp[fR]at hc;split at hc
   ·rename_i x xs' hx SQ
    cases hc;simp[Dl,ID,J0,wpOpsIn,h0];have ih:=λSD lh1 m1 a1 w1 hv hs (he:jI lh m lh1 m1)=>pX hF hS hE rest l xs' (k+1) SD lh1 m1 a1 w1 PR RO SQ hv hs (λsl' lh' m' a' w' M Q h3=>hQ sl' lh' m' a' w' M (he.trans Q) h3);unfold lT at hx;split at hx
    ·rename_i i hi hg;cases hx;simp[fH]at hv;rw[Ad (by simp[Region.wanted,hg])];refine jZ hF hi (qm hS hE hi hs.1 hs.2.2 hv) λv w' ⟨r,m',lh',M,Q,h3,h4⟩=>?_;exact ih _ _ m' _ _ h4 (hs.put Q.1 h3 o.dst M) Q
    ·rename_i i j want hi hg
     split at hx
     ·rename_i d hd
      cases hx;simp[fH]at hv
      let ⟨y1,y2,y3⟩:=r9 (ops:=ops) hs.1 hd
      split at hv
      ·rename_i b hb
       have hy:=y1 b hb;by_cases W4:b=want
       ·subst W4;have Ra:=JS hs hb;rw[Ad (by simp[Region.wanted,hg,hy])];refine jZ hF hi (qm hS hE hi Ra.1 Ra.2.2 (hv.1 rfl)) λv w' ⟨r,m',lh',M,Q,h3,h4⟩=>?_;exact ih _ _ m' _ _ h4 (Ra.put Q.1 h3 o.dst M) Q
       ·have W3:b=!want:=by cases b<;>cases want<;>simp_all
        have Ra:=JS hs hb;rw[AU (by simp[Region.wanted,hg,hy,W4])];refine⟨λf _=>hF.fn f,?_⟩;rw[W3]at Ra;exact ih _ _ m _ _ (hv.2 W3) (Ra.put (aN.le_refl m) hs.2.2 o.dst (by simp[AW,aE,undef])) (jI.refl _ _)
      ·rename_i vs hb;rw[AU (by simp[Region.wanted,hg,y2 _ hb])];refine⟨λf _=>hF.fn f,?_⟩;exact ih _ _ m _ _ hv ((JS hs hb).put (aN.le_refl m) hs.2.2 o.dst (by simp[AW,aE,undef])) (jI.refl _ _)
      ·rename_i hb;rw[AU (by simp[Region.wanted,hg,y3 _ _ hb])];refine⟨λf _=>hF.fn f,?_⟩;exact ih _ _ m _ _ hv (hs.put (aN.le_refl m) hs.2.2 o.dst (by simp[AW,aE,undef])) (jI.refl _ _)
      ·exact hv.elim
     ·cases hx
    ·cases hx
   ·cases hc
end
end Go.Sx
namespace Go.Sx
structure ci.Ok (P:Program) (f:FuncId) (Pe:ci):Prop where
 sound:Pe.Sound P f
 mono:∀w0 args lh PR K',(∀r l,PR r l->K' r l)->Pe w0 args lh PR->Pe w0 args lh K'
 strict:∀w0 args lh (Pg:Prop),Pe w0 args lh (λ_ _=>Pg)->Pg
def OI:lZ->Bool
 |.call ..|.callv ..|.app ..=>false|_=>true
section
variable {w0:World} {Pe:FuncId->ci} {sl:List ak} {lh:List ar} {pl:Option Nat}
theorem ho' {o:ar} {PR K':Nat->List ar->Prop} (h:∀ p l,PR p l->K' p l) (hp:place pl lh o PR):place pl lh o K':=by
 cases pl with
 |none=>exact h _ _ hp|some p=>exact⟨hp.1,h _ _ hp.2⟩
theorem hpe (o:ar):∃ d:Option (Nat×List ar),∀ PR:Nat->List ar->Prop,place pl lh o PR↔∃ p l,d=some (p,l)/\PR p l:=by
 cases pl with
 |none=>exact⟨some (lh.length,lh++[o]),λPR=>⟨λh=>⟨_,_,rfl,h⟩,λ⟨p,l,e,h⟩=>by cases e;exact h⟩⟩
 |some p=>
   by_cases hd:lh[p]? = some .dead
   ·exact⟨some (p,lh.set p o),λPR=>⟨λh=>⟨_,_,rfl,h.2⟩,λ⟨PX,l,e,h⟩=>by cases e;exact⟨hd,h⟩⟩⟩
   ·exact⟨none,λPR=>⟨λh=>(hd h.1).elim,λ⟨PX,l,e,h⟩=>by cases e⟩⟩
def cw (Φ:(ak->List ar->Prop)->Prop):Prop:=∃d:Option (ak×List ar),∀PR,Φ PR↔∃v l,d=some (v,l)/\PR v l
theorem cw.yes (v:ak) (l:List ar):cw (λPR=>PR v l):=⟨some (v,l),λ_=>⟨λh=>⟨_,_,rfl,h⟩,λ⟨_,_,e,h⟩=>by cases e;exact h⟩⟩
theorem cw.no:cw (λ_=>False):=⟨none,λ_=>⟨λh=>h.elim,λ⟨_,_,e,_⟩=>by cases e⟩⟩
theorem cw.and {Φ:(ak->List ar->Prop)->Prop} (p:Prop) (h:cw Φ):cw (λPR=>p/\Φ PR):=by
 let ⟨d,hd⟩:=h
 by_cases hp:p
 ·exact⟨d,λPR=>⟨λh=>(hd PR).1 h.2,λh=>⟨hp,(hd PR).2 h⟩⟩⟩
 ·exact⟨none,λPR=>⟨λh=>(hp h.1).elim,λ⟨_,_,e,_⟩=>by cases e⟩⟩
theorem cw.ex {α:Type} {Φ:α->(ak->List ar->Prop)->Prop} (x:Option α) (h:∀ a,cw (Φ a)):cw (λPR=>∃ a,x=some a/\Φ a PR):=by
 cases x with
 |none=>exact⟨none,λPR=>⟨λ⟨_,e,_⟩=>(by cases e),λ⟨_,_,e,_⟩=>(by cases e)⟩⟩
 |some a=>
   let ⟨d,hd⟩:=h a
   exact⟨d,λPR=>⟨λ⟨_,e,hK⟩=>(by cases e;exact(hd PR).1 hK),λhK=>⟨a,rfl,(hd PR).2 hK⟩⟩⟩
theorem cw.congr {Φ Ψ:(ak->List ar->Prop)->Prop} (h:∀ PR,Φ PR↔Ψ PR) (hd:cw Ψ):cw Φ:=by
 let ⟨d,hd⟩:=hd
 exact⟨d,λPR=>(h PR).trans (hd PR)⟩
theorem cw.place (o:ar) (f:Nat->ak):cw (λPR=>place pl lh o λp l=>PR (f p) l):=by
 let ⟨d,hd⟩:=hpe (lh:=lh) (pl:=pl) o
 refine⟨d.map λ(p,l)=>(f p,l),λPR=>(hd _).trans ⟨λ⟨p,l,e,h⟩=>⟨_,_,by rw[e];rfl,h⟩,λ⟨v,l,e,h⟩=>?_⟩⟩;cases d with
 |none=>cases e|some d=>cases e;exact⟨_,_,rfl,h⟩
theorem cw.bnd {Φ:Nat->(ak->List ar->Prop)->Prop} (x:Option ak) (y d:Nat) (h:∀ n,cw (Φ n)):cw (λPR=>bnd x y d λn=>Φ n PR):=by
 unfold Sx.bnd;cases x with
 |none=>exact h d|some x=>cases x<;>first|exact cw.no|exact cw.and _ (cw.and _ (h _))
theorem cw.parts (ps:List (Nat×Nat×gn)):∀ (z:List ak) {Φ:List ak->(ak->List ar->Prop)->Prop},(∀ cs,cw (Φ cs))->cw (λPR=>parts sl ps z λcs=>Φ cs PR):=by
 induction ps with
 |nil=>intro z Φ h;exact h z|cons p ps ih=>intro z Φ h;let ⟨off,n,x⟩:=p;exact cw.and _ (cw.and _ (cw.and _ (ih _ h)))
theorem cw.mm2 (b:Bool) (l:List ar):∀ (ys:List ak) (x:ak),cw (λPR=>mm2 b x ys λv=>PR v l)
 |[],x=>by cases x<;>exact cw.yes _ _
 |y::ys,x=>by
   cases x with
   |int k a=>cases y with|int k' c=>exact cw.and _ (cw.mm2 b l ys _)|_=>exact cw.no
   |_=>cases y<;>exact cw.no
theorem BN {op:lZ} (h:OI op=true):cw (λPR=>dK w0 Pe sl lh pl PR op):=by
 cases op<;>simp only[OI,Dy]at h<;>clear h<;>simp only[dK]
 case mov=>exact cw.yes _ _
 case pick c x y=>
  cases arg sl c<;>try exact cw.no
  rename_i t
  cases t
  ·exact cw.congr (λPR=>⟨λh=>h.2 rfl,λh=>⟨λe=>(by cases e),λ_=>h⟩⟩) (cw.yes (arg sl y) lh)
  ·exact cw.congr (λPR=>⟨λh=>h.1 rfl,λh=>⟨λ_=>h,λe=>(by cases e)⟩⟩) (cw.yes (arg sl x) lh)
 case new=>exact cw.place _ _
 case box=>exact cw.and _ (cw.place _ _)
 case agg=>exact cw.parts _ _ λ_=>cw.yes _ _
 case bsl=>exact cw.parts _ _ λ_=>cw.place _ _
 case ld x=>
  cases arg sl x<;>try exact cw.no
  rename_i p
  cases p
  ·exact cw.no
  ·exact cw.ex _ λ_=>cw.yes _ _
 case lds n x=>
  cases arg sl x<;>try exact cw.no
  rename_i p
  cases p
  ·exact cw.no
  ·exact cw.ex _ λ_=>cw.yes _ _
 case isn neg x=>
  cases arg sl x<;>first|exact cw.no|exact cw.yes _ _
 case clr esz z x=>
  cases arg sl x<;>try exact cw.no
  rename_i p n c
  cases p with
  |none=>exact cw.and _ (cw.yes _ _)
  |some p=>
    cases p with
    |g a=>exact cw.and _ (cw.yes _ _)
    |l k off=>
      cases hg:lh[k]? with
      |none=>exact cw.congr (λPR=>⟨λ⟨_,_,e,_⟩=>(by rw[hg]at e;cases e),λh=>h.elim⟩) cw.no
      |some ob=>
        cases ob with
        |cells cs ty=>
          refine cw.congr (Ψ:=λPR=>n≠0/\off+n*esz<=cs.length/\PR (.tup []) (lh.set k (.cells (wr cs off (List.replicate n z).flatten) ty))) (λPR=>?_) (cw.and _ (cw.and _ (cw.yes _ _)))
          constructor
          ·rintro⟨cs',ty',e,M,Q,h3⟩
           rw[hg]at e;cases e;exact⟨M,Q,h3⟩
          ·rintro⟨M,Q,h3⟩
           exact⟨cs,ty,hg,M,Q,h3⟩
        |dead=>exact cw.congr (λPR=>⟨λ⟨_,_,e,_⟩=>(by rw[hg]at e;cases e),λh=>h.elim⟩) cw.no
        |hid=>exact cw.congr (λPR=>⟨λ⟨_,_,e,_⟩=>(by rw[hg]at e;cases e),λh=>h.elim⟩) cw.no
 case st n x y=>
  cases arg sl x<;>try exact cw.no
  rename_i p
  cases p
  ·exact cw.no
  rename_i p
  cases p
  ·rename_i k off
   cases hg:lh[k]? with
   |none=>exact cw.congr (λPR=>⟨λ⟨_,_,e,_⟩=>(by rw[hg]at e;cases e),λh=>h.elim⟩) cw.no
   |some ob=>
     cases ob with
     |cells cs ty=>
       refine cw.congr (Ψ:=λPR=>(arg sl y).flat=true/\(arg sl y).cells.length=n/\off+n<=cs.length/\PR (.tup []) (lh.set k (.cells (wr cs off (arg sl y).cells) ty))) (λPR=>?_) (cw.and _ (cw.and _ (cw.and _ (cw.yes _ _))))
       exact⟨λ⟨_,_,e,h⟩=>(by rw[hg]at e;cases e;exact h),λh=>⟨cs,ty,hg,h⟩⟩
     |_=>exact cw.congr (λPR=>⟨λ⟨_,_,e,_⟩=>(by rw[hg]at e;cases e),λh=>h.elim⟩) cw.no
  ·exact cw.no
 case nz x=>
  cases arg sl x<;>try exact cw.no
  ·rename_i p
   cases p
   ·exact cw.no
   ·exact cw.yes _ _
  ·rename_i f _ _
   cases f<;>first|exact cw.yes _ _|exact cw.no
 case bin op x y=>
  unfold Rv
  cases arg sl x<;>cases arg sl y<;>try exact cw.no
  ·refine cw.and _ ?_
   cases op<;>simp only[ue]<;>first|exact cw.yes _ _|exact cw.and _ (cw.yes _ _)|exact cw.no
  ·cases op<;>simp only[CS]<;>first|exact cw.yes _ _|exact cw.and _ (cw.yes _ _)|exact cw.no
 case eqa neg n x y=>
  cases arg sl x<;>cases arg sl y<;>try exact cw.no
  exact cw.and _ (cw.ex _ λ_=>cw.yes _ _)
 case eqb neg x y=>
  cases arg sl x<;>cases arg sl y<;>try exact cw.no
  exact cw.yes _ _
 case un op x=>
  cases op<;>cases arg sl x<;>first|exact cw.no|exact cw.yes _ _
 case conv k x=>cases arg sl x<;>first|exact cw.no|exact cw.yes _ _
 case mkf=>exact cw.yes _ _
 case fa off x=>
  cases arg sl x<;>try exact cw.no
  rename_i p
  cases p<;>first|exact cw.no|exact cw.yes _ _
 case fld off n x=>
  cases arg sl x<;>try exact cw.no
  cases n
  ·exact cw.ex _ λ_=>cw.yes _ _
  ·exact cw.yes _ _
 case iaA n esz x ix=>
  cases arg sl x<;>try exact cw.no
  rename_i p
  cases p<;>try exact cw.no
  cases arg sl ix<;>first|exact cw.no|exact cw.and _ (cw.and _ (cw.yes _ _))
 case iaS esz x ix=>
  cases arg sl x<;>try exact cw.no
  cases arg sl ix<;>first|exact cw.no|exact cw.and _ (cw.and _ (cw.ex _ λ_=>cw.yes _ _))
 case ixA n esz sz x ix=>
  cases arg sl x<;>try exact cw.no
  cases arg sl ix<;>try exact cw.no
  refine cw.and _ (cw.and _ ?_)
  cases sz
  ·exact cw.ex _ λ_=>cw.yes _ _
  ·exact cw.yes _ _
 case ixS x ix=>
  cases arg sl x<;>try exact cw.no
  cases arg sl ix<;>first|exact cw.no|exact cw.and _ (cw.and _ (cw.yes _ _))
 case len x=>cases arg sl x<;>first|exact cw.no|exact cw.yes _ _
 case lenT x=>cases arg sl x<;>first|exact cw.no|exact cw.yes _ _
 case lenA=>exact cw.yes _ _
 case mm=>exact cw.mm2 _ _ _ _
 case ext x i=>
  cases arg sl x<;>try exact cw.no
  exact cw.ex _ λ_=>cw.yes _ _
 case slS esz x lo hi mx=>
  cases arg sl x<;>try exact cw.no
  exact cw.bnd _ _ _ λ_=>cw.bnd _ _ _ λ_=>cw.bnd _ _ _ λ_=>cw.yes _ _
 case slA n esz x lo hi mx=>
  cases arg sl x<;>try exact cw.no
  rename_i p
  cases p<;>try exact cw.no
  exact cw.bnd _ _ _ λ_=>cw.bnd _ _ _ λ_=>cw.bnd _ _ _ λ_=>cw.yes _ _
 case slT x lo hi=>
  cases arg sl x<;>try exact cw.no
  exact cw.bnd _ _ _ λ_=>cw.bnd _ _ _ λ_=>cw.yes _ _
 case mks=>exact cw.place _ _
theorem cw.mono {Φ:(ak->List ar->Prop)->Prop} (h:cw Φ) {PR K':ak->List ar->Prop} (hk:∀ v l,PR v l->K' v l) (hp:Φ PR):Φ K':=by
 let ⟨d,hd⟩:=h
 let ⟨v,l,e,hK⟩:=(hd PR).1 hp
 exact(hd K').2 ⟨v,l,e,hk _ _ hK⟩
theorem hop {ty:TypeId} {esz bytes:Nat} {zero:List ak} {PR K':ak->List ar->Prop} {x y:ak} (hk:∀ v l,PR v l->K' v l) (h:tY w0 lh pl ty esz bytes zero PR x y):tY w0 lh pl ty esz bytes zero K' x y:=by
 unfold tY at *
 split at h
 ·rename_i p n c PX k _
  let ⟨new,M,Q,h3⟩:=h
  refine⟨new,M,λhc=>?_,λhc=>?_⟩
  ·have Q:=Q hc
   cases p with
   |none=>exact hk _ _ Q
   |some p=>cases p with
     |l b off=>let ⟨cs,t,a,b,c,d⟩:=Q;exact⟨cs,t,a,b,c,hk _ _ d⟩
     |g a=>exact⟨Q.1,hk _ _ Q.2⟩
  ·let ⟨old,a,b,c,d⟩:=h3 hc
   exact⟨old,a,b,c,λc' Rw=>ho' (λ_ _=>hk _ _) (d c' Rw)⟩
 ·exact h.elim
theorem hmx {o:ar} {Pg:Prop} (h:place pl lh o λ_ _=>Pg):Pg:=by
 cases pl with
 |none=>exact h|some p=>exact h.2
theorem hnc {ty:TypeId} {esz bytes:Nat} {zero:List ak} {Pg:Prop} {x y:ak} (h:tY w0 lh pl ty esz bytes zero (λ_ _=>Pg) x y):Pg:=by
 unfold tY at h;split at h
 ·rename_i p n c PX k _
  let ⟨new,M,Q,h3⟩:=h
  by_cases hc:n+k<=c
  ·have Q:=Q hc
   cases p with
   |none=>exact Q
   |some p=>cases p with
     |l b off=>let ⟨cs,t,a,b,c,d⟩:=Q;exact d
     |g a=>exact Q.2
  ·let ⟨old,a,b,c,d⟩:=h3 K
   exact hmx (d _ (Ah _))
 ·exact h.elim
theorem dZ {P:Program} (hS:∀ f,(Pe f).Ok P f) {op:lZ} {PR K':ak->List ar->Prop} (hk:∀ v l,PR v l->K' v l) (h:dK w0 Pe sl lh pl PR op):dK w0 Pe sl lh pl K' op:=by
 by_cases hd:OI op=true
 ·exact(BN hd).mono hk h
 ·cases op<;>simp[OI,Jl]at hd<;>simp[dK]at h ⊢
  case call f xs=>exact(hS f).mono _ _ _ _ _ hk h
  case callv x xs=>
   split at h
   ·exact(hS _).mono _ _ _ _ _ hk h
   ·exact h.elim
  case app=>exact hop hk h
theorem oO {P:Program} (hS:∀ f,(Pe f).Ok P f) {op:lZ} {Pg:Prop} (h:dK w0 Pe sl lh pl (λ_ _=>Pg) op):Pg:=by
 by_cases hd:OI op=true
 ·let ⟨d,hd⟩:=BN (w0:=w0) (Pe:=Pe) (sl:=sl) (lh:=lh) (pl:=pl) hd
  let ⟨_,_,_,hQ⟩:=(hd _).1 h
  exact hQ
 ·cases op<;>simp[OI,Jl]at hd<;>simp[dK]at h
  case call f xs=>exact(hS f).strict _ _ _ _ h
  case callv x xs=>
   split at h
   ·exact(hS _).strict _ _ _ _ h
   ·exact h.elim
  case app=>exact hnc h
end
end Go.Sx
namespace Go.Sx
def hide (X:List Nat) (lh:List ar):List ar:=lh.mapIdx λk o=>if k∈X then .hid else o
def mix (Q8:List Nat) (lh l:List ar):List ar:=lh.mapIdx λk o=>if k∈Q8 then l.getD k o else o
def kT (Q8:List Nat) (l h:List ar):Prop:=l.length=h.length/\∀k,k∉Q8->l[k]? = h[k]?
theorem hide_get (X:List Nat) (lh:List ar) (k:Nat):(hide X lh)[k]? = if k∈X then lh[k]?.map (λ_=>.hid) else lh[k]? := by
 unfold hide;rw[Jf];split
 ·cases lh[k]? with|none=>rfl|some o=>simp
 ·cases lh[k]? with|none=>rfl|some o=>simp
theorem hide_length (X:List Nat) (lh:List ar):(hide X lh).length=lh.length:=by simp[hide]
theorem wq (Q8:List Nat) (lh l:List ar) (k:Nat):(mix Q8 lh l)[k]? = if k∈Q8 then lh[k]?.map (λo=>l.getD k o) else lh[k]? := by
 unfold mix;rw[Jf];split
 ·cases lh[k]? with|none=>rfl|some o=>simp
 ·cases lh[k]? with|none=>rfl|some o=>simp
theorem hol (Q8:List Nat) (lh l:List ar):(mix Q8 lh l).length=lh.length:=by simp[mix]
theorem bk.unhide {B:dN} {m m':aN} {lh lh':List ar} {w w':World} {X Q8:List Nat} (h:bk B m lh w)
 (h':bk ⟨B.w0,w,λb=>∃k cs ty,k∉X/\lh[k]? = some (.cells cs ty)/\m k=some b,B.ds⟩ m' lh' w') (he:jI (hide X lh) m lh' m') (hw:kT Q8 lh' (hide X lh)) :
 bk B m' (mix Q8 lh lh') w'/\jI lh m (mix Q8 lh lh') m':=by
 have hlen:lh'.length=lh.length:=by rw[hw.1,hide_length]
 have hent:∀ k o,(mix Q8 lh lh')[k]? = some o->(lh'[k]? = some o) ∨ (k ∈ X/\lh[k]? = some o/\lh'[k]? = some .hid):=λk o hk=>by
  rw[wq]at hk;split at hk
  ·cases hl:lh[k]? with
   |none=>rw[hl]at hk;cases hk
   |some o'=>
     rw[hl]at hk;simp at hk;have Pj:k<lh'.length:=by rw[hlen];exact(List.getElem?_eq_some_iff.1 hl).1
     left;rw[Ds Pj]at hk ⊢;simpa using hk
  ·rename_i iy21
   have RX:=hw.2 k iy21;rw[hide_get]at RX;split at RX
   ·rename_i hX;right;exact⟨hX,hk,by rw[RX,hk];rfl⟩
   ·left;rw[RX];exact hk
 have hnoown:∀k cs ty b,k∈X->lh[k]? = some (.cells cs ty)->m k=some b->¬ ∃j cs ty,j∉X/\lh[j]? = some (ar.cells cs ty)/\m j=some b:=λk cs ty b hX hk hb ⟨j,cs',ty',hj,hl,QX⟩=>by exact hj (h.inj j k b cs' cs ty' ty hl hk QX hb▸hX)
 refine⟨⟨h'.os.trans h.os,h'.tape.trans h.tape,h'.output.trans h.output,h'.size,h'.old,E0 h.fsize h'.fsize,λb hb ho=>?_,λk cs ty hk=>?_,λk k' b cs cs' ty ty' M Q hb QX=>?_,λk hk=>?_,λk hk=>?_,h'.rng⟩,he.1,λk hk=>?_⟩
 ·rw [h'.kept b (ET hb h.fsize) (λ⟨k,cs,ty,_,hl,hm⟩=>?_)]
  ·exact h.kept b hb ho
  ·let ⟨b',_,QX,_,_,_,h3⟩:=h.loc k cs ty hl
   rw[hm]at QX;cases QX;rcases h3 with h3|h3
   ·omega
   ·exact ho h3
 ·rcases hent k _ hk with hl|⟨hX,hl,_⟩
  ·let ⟨b,vs,hb,Qh,hh,M,Q⟩:=h'.loc k cs ty hl
   refine⟨b,vs,hb,Qh,hh,M,?_⟩;rcases Q with Q|⟨j,cs',ty',hj,Vd,rj⟩
   ·exact .inl (E0 h.fsize Q)
   ·let ⟨b',_,QX,_,_,_,h3⟩:=h.loc j cs' ty' Vd
    rw[rj]at QX;cases QX;exact h3
  ·let ⟨b,vs,hb,Qh,hh,M,Q⟩:=h.loc k cs ty hl
   refine⟨b,vs,he.1 _ _ hb,dc he.1 _ _ Qh,?_,M,Q⟩;rw[h'.kept b (h.rng k b hb) (hnoown k cs ty b hX hl hb)];exact hh
 ·have mixed:∀ k k' b cs cs' ty ty',lh'[k]? = some (.cells cs ty)->k' ∈ X->lh[k']? = some (.cells cs' ty')->m' k=some b->m' k'=some b->False:=λk k' b cs cs' ty ty' hl hX RO hb QX=>by
   let ⟨b0,_,RZ,_⟩:=h.loc k' cs' ty' RO
   have e:=he.1 _ _ RZ;rw[QX]at e;cases e
   let ⟨b1,_,Rq,_,_,_,Q⟩:=h'.loc k cs ty hl
   rw[hb]at Rq;cases Rq;rcases Q with Q|Q
   ·have h3:=h.rng k' b RZ;have h4:w.heap.size<=b:=Q;omega
   ·exact hnoown k' cs' ty' b hX RO RZ Q
  rcases hent k _ M with hl|⟨hX,hl,_⟩<;>rcases hent k' _ Q with RO|⟨Ww,RO,_⟩
  ·exact h'.inj k k' b cs cs' ty ty' hl RO hb QX
  ·exact(mixed k k' b cs cs' ty ty' hl Ww RO hb QX).elim
  ·exact(mixed k' k b cs' cs ty' ty RO hX hl QX hb).elim
  ·let ⟨b0,_,RZ,_⟩:=h.loc k cs ty hl
   let ⟨b1,_,Rq,_⟩:=h.loc k' cs' ty' RO
   have e:=he.1 _ _ RZ;rw[hb]at e;cases e;have e:=he.1 _ _ Rq;rw[QX]at e;cases e;exact h.inj k k' b cs cs' ty ty' hl RO RZ Rq
 ·exact h'.dom k (by rw[hol]at hk;omega)
 ·rcases hent k _ hk with hl|⟨hX,hl,RO⟩
  ·exact h'.dead k hl
  ·have hd:=h.dead k hl
   have hh:(hide X lh)[k]? = some .hid:=by rw[hide_get,Ad hX,hl];rfl
   rw[(he.2 k hh).2];exact hd
 ·have hh:(hide X lh)[k]? = some .hid:=by
   rw[hide_get];split
   ·rw[hk];rfl
   ·exact hk
  let ⟨M,Q⟩:=he.2 k hh
  refine⟨?_,Q⟩;rw[wq];split
  ·rw[hk];simp[List.getD,M]
  ·exact hk
theorem bk.hide {B:dN} {m:aN} {lh:List ar} {w:World} (h:bk B m lh w) (X:List Nat) :
 bk ⟨B.w0,w,λb=>∃k cs ty,k∉X/\lh[k]? = some (.cells cs ty)/\m k=some b,B.ds⟩ m (hide X lh) w:=by
 have hv:∀ k cs ty,(Sx.hide X lh)[k]? = some (.cells cs ty)->k∉X/\lh[k]? = some (.cells cs ty):=λk cs ty hk=>by
  rw[hide_get]at hk;split at hk
  ·cases hl:lh[k]? <;> rw[hl]at hk<;>cases hk
  ·exact⟨by assumption,hk⟩
 refine⟨rfl,rfl,rfl,h.size,h.old,Ah _,λ_ _ _=>rfl,λk cs ty hk=>?_,λk k' b cs cs' ty ty' M Q hb QX=>?_,λk hk=>h.dom k (by rw[hide_length]at hk;exact hk),λk hk=>?_,h.rng⟩
 ·let ⟨hX,hl⟩:=hv k cs ty hk
  let ⟨b,vs,hb,Qh,hh,M,_⟩:=h.loc k cs ty hl
  exact⟨b,vs,hb,Qh,hh,M,.inr ⟨k,cs,ty,hX,hl,hb⟩⟩
 ·exact h.inj k k' b cs cs' ty ty' (hv _ _ _ M).2 (hv _ _ _ Q).2 hb QX
 ·rw[hide_get]at hk;split at hk
  ·cases hl:lh[k]? <;> rw[hl]at hk<;>cases hk
  ·exact h.dead k hk
inductive FG where|run (v:ak) (l:List ar)|skip
def pW (w0:World) (Pe:FuncId->ci) (Q8:List Nat) (pl:Option Nat) (o:jt) (sl:List ak) (hl:List ar) (PR:FG->Prop):Prop :=
 match o.guard with
 |none=>dK w0 Pe sl hl pl (λv l=>kT Q8 l hl/\PR (.run v l)) o.op
 |some (d,want)=>
   match sl.getD d .any with
   |.bool b=>(b=want->dK w0 Pe sl hl pl (λv l=>kT Q8 l hl/\PR (.run v l)) o.op)/\(b=!want->PR .skip)|.tup _=>PR .skip|.int ..=>PR .skip|_=>False
def kD (o:jt) (sl:List ak):FG->List ak
 |.run v _=>fl sl o.dst v|.skip=>fl sl o.dst (.tup [])
def lR (Q8:List Nat) (lh:List ar):FG->List ar
 |.run _ l=>mix Q8 lh l|.skip=>lh
def MU (w0:World) (Pe:FuncId->ci) (X Q8:List Nat) (pl:Option Nat) (o:jt) (sl:List ak) (lh:List ar) (PR:List ak->List ar->Prop):Prop :=
 pW w0 Pe Q8 pl o sl (hide X lh) λe=>PR (kD o sl e) (lR Q8 lh e)
section
variable {P:Program} {Pe:FuncId->ci} {Q8 X:List Nat} {pl:Option Nat} {o:jt} {sl sl':List ak} {lh lh' hl:List ar} {w0:World}
theorem nO (hS:∀ f,(Pe f).Ok P f) {PR K':FG->Prop} (hk:∀ e,PR e->K' e) (h:pW w0 Pe Q8 pl o sl hl PR):pW w0 Pe Q8 pl o sl hl K':=by
 unfold pW at *
 split
 ·rename_i hg;rw[hg]at h;exact dZ hS (λ_ _ ⟨a,b⟩=>⟨a,hk _ b⟩) h
 ·rename_i d want hg
  rw[hg]at h;dsimp only at h;split at h
  ·exact⟨λe=>dZ hS (λ_ _ ⟨a,b⟩=>⟨a,hk _ b⟩) (h.1 e),λe=>hk _ (h.2 e)⟩
  ·exact hk _ h
  ·exact hk _ h
  ·exact h.elim
theorem pb (hS:∀ f,(Pe f).Ok P f) {Pg:Prop} (h:pW w0 Pe Q8 pl o sl hl λ_=>Pg):Pg:=by
 unfold pW at h;split at h
 ·exact oO hS (dZ hS (K':=λ_ _=>Pg) (λ_ _ ⟨_,b⟩=>b) h)
 ·rename_i d want hg
  split at h
  ·rename_i b _
   by_cases e:b=want
   ·exact oO hS (dZ hS (K':=λ_ _=>Pg) (λ_ _ ⟨_,b⟩=>b) (h.1 e))
   ·exact h.2 (by cases b<;>cases want<;>simp_all)
  ·exact h
  ·exact h
  ·exact h.elim
theorem aAm (hd:OI o.op=true):∃ d:Option FG,∀ PR,pW w0 Pe Q8 pl o sl hl PR↔∃ e,d=some e/\PR e:=by
 let ⟨d,hd⟩:=BN (w0:=w0) (Pe:=Pe) (sl:=sl) (lh:=hl) (pl:=pl) hd
 have hrun:∃ d':Option FG,∀ PR:FG->Prop,dK w0 Pe sl hl pl (λv l=>kT Q8 l hl/\PR (.run v l)) o.op↔∃ e,d'=some e/\PR e:=by
  cases d with
  |none=>exact⟨none,λPR=>(hd _).trans ⟨λ⟨_,_,e,_⟩=>(by cases e),λ⟨_,e,_⟩=>(by cases e)⟩⟩
  |some p=>
    let ⟨v,l⟩:=p
    by_cases hs:kT Q8 l hl
    ·exact⟨some (.run v l),λPR=>(hd _).trans ⟨λ⟨_,_,e,h⟩=>(by cases e;exact⟨_,rfl,h.2⟩),λ⟨_,e,h⟩=>(by cases e;exact⟨v,l,rfl,hs,h⟩)⟩⟩
    ·exact⟨none,λPR=>(hd _).trans ⟨λ⟨_,_,e,h⟩=>(by cases e;exact(hs h.1).elim),λ⟨_,e,_⟩=>(by cases e)⟩⟩
 have hskip:∃d':Option FG,∀PR:FG->Prop,PR .skip↔∃e,d'=some e/\PR e:=⟨some .skip,λPR=>⟨λh=>⟨_,rfl,h⟩,λ⟨_,e,h⟩=>(by cases e;exact h)⟩⟩;unfold pW;cases hg:o.guard with
 |none=>exact hrun
 |some g=>
   let ⟨t,want⟩:=g
   simp only
   cases hv:sl.getD t .any with
   |bool b=>
     simp only
     by_cases e:b=want
     ·let ⟨d',h'⟩:=hrun
      refine⟨d',λPR=>⟨λh=>(h' PR).1 (h.1 e),λh=>⟨λ_=>(h' PR).2 h,λe'=>?_⟩⟩⟩;have:=e.symm.trans e';cases want<;>cases this
     ·let ⟨d',h'⟩:=hskip
      refine⟨d',λPR=>⟨λh=>(h' PR).1 (h.2 (by clear h h';cases b<;>cases want<;>first|rfl|exact(e rfl).elim)),λh=>⟨λe'=>(e e').elim,λ_=>(h' PR).2 h⟩⟩⟩
   |tup _=>exact hskip|int _ _=>exact hskip|_=>exact⟨none,λPR=>⟨λh=>h.elim,λ⟨_,e,_⟩=>(by cases e)⟩⟩
end
end Go.Sx
namespace Go.Sx
def lZ.args:lZ->List gn
 |.mov x|.box _ x|.ld x|.lds _ x|.nz x|.un _ x|.conv _ x|.fa _ x|.fld _ _ x|.len x|.lenT x|.ext x _|.isn _ x|.clr _ _ x=>[x]
 |.pick c a b=>[c,a,b]
 |.new ..|.lenA _|.mks ..=>[]
 |.agg _ ps|.bsl _ _ _ ps=>ps.map (·.2.2)
 |.st _ a x|.bin _ a x|.eqa _ _ a x|.eqb _ a x|.iaA _ _ a x|.iaS _ a x|.ixA _ _ _ a x|.ixS a x|.app _ _ _ _ a x=>[a,x]
 |.mkf _ xs ys=>xs++ys
 |.mm _ x xs=>x::xs
 |.slS _ x lo hi mx|.slA _ _ x lo hi mx=>x::(lo.toList++hi.toList++mx.toList)
 |.slT x lo hi=>x::(lo.toList++hi.toList)
 |.call _ xs=>xs
 |.callv x xs=>x::xs
def sH (xs:List gn):List Nat:=xs.filterMap λ|.t i=>some i|.k _=>none
def jt.reads (o:jt):List Nat:=sH o.op.args++(match o.guard with|some (d,_)=>[d]|none=>[])
section
variable {P:Program} {Pe:FuncId->ci} {Q8 X:List Nat} {pl:Option Nat} {o:jt} {sl sl':List ak} {lh lh' hl:List ar} {w0:World}
theorem hk2 (ps:List (Nat×Nat×gn)) (PR:List ak->Prop) (h:∀ x∈ps.map (·.2.2),arg sl x=arg sl' x):∀ z,parts sl ps z PR=parts sl' ps z PR:=by
 induction ps with
 |nil=>intro z;rfl
 |cons p ps ih=>
   intro z
   let ⟨off,n,x⟩:=p
   simp[parts];rw[h x au,ih (λy hy=>h y (by simp at hy ⊢;exact .inr hy))]
theorem hG {xs:List gn} (h:∀x∈xs,arg sl x=arg sl' x):xs.map (arg sl)=xs.map (arg sl'):=Iu h
theorem eG {x:Option gn} (h:∀ y∈x.toList,arg sl y=arg sl' y):x.map (arg sl)=x.map (arg sl'):=by
 cases x with
 |none=>rfl|some x=>simp[h x au]
theorem qd {op:lZ} {PR:ak->List ar->Prop} (h:∀ x∈op.args,arg sl x=arg sl' x):dK w0 Pe sl lh pl PR op=dK w0 Pe sl' lh pl PR op:=by
 cases op<;>simp only[lZ.args,Dq,H8,or_false,Ka,forall_eq,IC]at h<;>simp only[dK]
 case agg=>exact hk2 _ _ h _
 case bsl=>exact hk2 _ _ h _
 case mkf f xs ys=>rw[hG (λx hx=>h x (.inl hx)),hG (λx hx=>h x (.inr hx))]
 case mm=>rw[h.1,hG h.2]
 case slS esz x lo hi mx=>rw[h.1,eG (λy hy=>h.2 y (.inl (.inl hy))),eG (λy hy=>h.2 y (.inl (.inr hy))),eG (λy hy=>h.2 y (.inr hy))]
 case slA n esz x lo hi mx=>rw[h.1,eG (λy hy=>h.2 y (.inl (.inl hy))),eG (λy hy=>h.2 y (.inl (.inr hy))),eG (λy hy=>h.2 y (.inr hy))]
 case slT x lo hi=>rw[h.1,eG (λy hy=>h.2 y (.inl hy)),eG (λy hy=>h.2 y (.inr hy))]
 case call=>rw[hG h]
 case callv=>rw[h.1,hG h.2]
 all_goals first
  |rfl|rw[h]|rw[h.1,h.2]|rw[h.1,h.2.1,h.2.2]
theorem hm1 {PR:FG->Prop} (h:∀ t∈o.reads,sl.getD t .any=sl'.getD t .any):pW w0 Pe Q8 pl o sl hl PR=pW w0 Pe Q8 pl o sl' hl PR:=by
 have ha:∀ x∈o.op.args,arg sl x=arg sl' x:=λx hx=>by
  cases x with
  |t i=>exact h i (Jj _ (List.mem_filterMap.2 ⟨_,hx,rfl⟩))|k v=>rfl
 unfold pW;cases hg:o.guard with
 |none=>exact qd ha
 |some g=>
   let ⟨d,want⟩:=g
   simp only
   rw[h d (by simp[jt.reads,hg]),qd ha]
def pE (x y:jt):Bool :=
 (match x.dst with|some d=>!y.reads.contains d&&y.dst !=some d|none=>true)&&(match y.dst with|some d=>!x.reads.contains d|none=>true)
theorem pR {x y:jt} (h:pE x y=true):(∀ d,x.dst=some d->d∉y.reads)/\(∀ d,x.dst=some d->y.dst≠some d)/\(∀ d,y.dst=some d->d∉x.reads):=by
 refine⟨λd hd=>?_,λd hd=>?_,λd hd=>?_⟩<;>simp[pE,hd]at h
 ·exact h.1.1
 ·exact h.1.2
 ·exact h.2
theorem CvN {d:Option Nat} {v:ak} {t:Nat} (h:d≠some t):(fl sl d v).getD t .any=sl.getD t .any:=by
 cases d with
 |none=>rfl
 |some d=>simp only[fl];rw[H6,Be,AU (λe=>h (by rw[e])),← H6]
theorem hlv {x:jt} {e:FG} {t:Nat} (h:x.dst≠some t):(kD x sl e).getD t .any=sl.getD t .any:=by cases e<;>exact CvN h
theorem hlo {e:FG} (h:∀ k∈Q8,k∈X):hide X (lR Q8 lh e)=hide X lh:=by
 cases e with
 |skip=>rfl
 |run v l=>
   apply ED;intro k;rw[hide_get,hide_get];simp[lR];rw[wq];by_cases hX:k∈X
   ·rw[Ad hX,Ad hX]
    split
    ·cases lh[k]? <;> rfl
    ·rfl
   ·rw[AU hX,AU hX,AU (λhW=>hX (h k hW))]
theorem uo {d d':Option Nat} {u v:ak} (h:∀ k,d=some k->d'≠some k):fl (fl sl d u) d' v=fl (fl sl d' v) d u:=by
 cases d with
 |none=>rfl
 |some d=>cases d' with|none=>rfl|some d'=>exact List.set_comm _ _ (λe=>h d rfl (by rw[e]))
theorem hoi {x y:jt} {e e':FG} (h:∀k,x.dst=some k->y.dst≠some k):kD y (kD x sl e) e'=kD x (kD y sl e') e:=by cases e<;>cases e'<;>exact uo h
theorem hoo {V:List Nat} {e e':FG} (h:∀ k∈Q8,k∉V):lR V (lR Q8 lh e) e'=lR Q8 (lR V lh e') e:=by
 cases e with
 |skip=>rfl
 |run v l=>cases e' with
   |skip=>rfl
   |run v' l'=>
     apply ED;intro k;simp[lR,wq];by_cases hW:k∈Q8
     ·simp[hW,h k hW]
     ·simp[hW]
theorem av1 (hS:∀ f,(Pe f).Ok P f) {x y:jt} {X' W':List Nat} {pl':Option Nat} (ly:pE x y=true) (hdet:OI x.op=true∨OI y.op=true) (M:∀ k∈W',k∈X) (Q:∀ k∈Q8,k∈X') (h3:∀ k∈Q8,k∉W')
 {PR:List ak->List ar->Prop} (h:MU w0 Pe X Q8 pl x sl lh λSD lh1=>MU w0 Pe X' W' pl' y SD lh1 PR):MU w0 Pe X' W' pl' y sl lh λSD lh1=>MU w0 Pe X Q8 pl x SD lh1 PR:=by
 let ⟨a1,a2,a3⟩:=pR ly
 have loc1:∀e (PR:FG->Prop),pW w0 Pe W' pl' y (kD x sl e) (hide X' (lR Q8 lh e)) PR=pW w0 Pe W' pl' y sl (hide X' lh) PR:=λe PR=>by rw[hlo Q];exact hm1 λt ht=>hlv (λe=>a1 t e ht)
 have loc2:∀e (PR:FG->Prop),pW w0 Pe Q8 pl x (kD y sl e) (hide X (lR W' lh e)) PR=pW w0 Pe Q8 pl x sl (hide X lh) PR:=λe PR=>by rw[hlo M];exact hm1 λt ht=>hlv (λe=>a3 t e ht)
 have comm:∀ex ey,PR (kD y (kD x sl ex) ey) (lR W' (lR Q8 lh ex) ey)↔PR (kD x (kD y sl ey) ex) (lR Q8 (lR W' lh ey) ex):=λex ey=>by rw[hoi a2,hoo h3]
 unfold MU at *
 simp[loc1]at h;simp[loc2];rcases hdet with hd|hd
 ·let ⟨d,hd⟩:=aAm (w0:=w0) (Pe:=Pe) (Q8:=Q8) (pl:=pl) (sl:=sl) (hl:=hide X lh) hd
  let ⟨ex,hex,h⟩:=(hd _).1 h
  exact nO hS (λey hK=>(hd _).2 ⟨ex,hex,(comm ex ey).1 hK⟩) h
 ·let ⟨d,hd⟩:=aAm (w0:=w0) (Pe:=Pe) (Q8:=W') (pl:=pl') (sl:=sl) (hl:=hide X' lh) hd
  have hsome:∃ey,d=some ey:=pb hS (nO hS (λex hy=>let ⟨ey,Zj,_⟩:=(hd _).1 hy;⟨ey,Zj⟩) h)
  let ⟨ey,Zj⟩:=hsome
  refine(hd _).2 ⟨ey,Zj,nO hS (λex hy=>?_) h⟩
  let ⟨ey',hey',hK⟩:=(hd _).1 hy
  rw[Zj]at hey';cases hey';exact(comm ex ey).1 hK
theorem xG (hS:∀ f,(Pe f).Ok P f) {PR K':List ak->List ar->Prop} (hk:∀ s l,PR s l->K' s l) (h:MU w0 Pe X Q8 pl o sl lh PR):MU w0 Pe X Q8 pl o sl lh K' :=
 nO hS (λ_=>hk _ _) h
end
inductive EK where|fresh (r:Nat)|slot (s:Nat)|load (s off:Nat)
structure jq where
 o:jt
 rk:Option Nat
 un:List Nat
 ws:List EK
def HQ:lZ->Bool
 |.st ..|.app ..|.new ..|.box ..|.bsl ..|.mks ..|.clr ..=>true|_=>false
def Cl (Ws:List (List Nat)) (i:Nat):List Nat:=Ws.getD i []
def H4 (Ws:List (List Nat)) (un:List Nat):List Nat:=un.flatMap (Cl Ws)
def D6 (w0:World) (Pe:FuncId->ci) (ds:List jq) (Ws:List (List Nat)) (H i:Nat) (PR:List ak->List ar->Prop) (sl:List ak) (lh:List ar):Prop :=
 match ds[i]? with
 |none=>PR sl lh|some d=>MU w0 Pe (H4 Ws d.un) (Cl Ws i) (d.rk.map (H+·)) d.o sl lh PR
def G7 (w0:World) (Pe:FuncId->ci) (ops:Array Oper) (ds:List jq) (Ws:List (List Nat)) (H:Nat) (PR:List ak->List ar->Prop):Nat->Array Bool->List ak->List ar->Prop
 |0,listed,sl,lh=>Region.ready .any ops listed=[]/\PR sl lh
 | fuel+1,listed,sl,lh=>(Region.ready .any ops listed=[]->PR sl lh) /\
    ∀i∈Region.ready .any ops listed,D6 w0 Pe ds Ws H i (G7 w0 Pe ops ds Ws H PR fuel (listed.setIfInBounds i true)) sl lh
def Hc (ops:Array Oper):Nat->Nat->Nat->Bool
 |0,_,_=>false
 |f+1,j,i=>match ops[j]? with
   |some o=>o.after.toList.any λe=>Region.binds .any e&&(e.on==i||Hc ops f e.on i)
   |none=>false
def ti (ds:List jq) (i j:Nat):Bool :=
 match ds[i]?,ds[j]? with
 |some x,some y=>pE x.o y.o&&(OI x.o.op||OI y.o.op)&&(!HQ y.o.op||x.un.contains j)&&(!HQ x.o.op||y.un.contains i)|_,_=>false
def sr (ops:Array Oper) (ds:List jq):Bool :=
 (List.range ds.length).all λi=>(List.range ds.length).all λj=>i==j||Hc ops ds.length i j||Hc ops ds.length j i||ti ds i j
def A8 (ops:Array Oper):Nat->Nat->Array Bool->Bool
 |0,_,listed=>(Region.ready .any ops listed).isEmpty|f+1,k,listed=>(Region.ready .any ops listed).contains k&&A8 ops f (k+1) (listed.setIfInBounds k true)
def LQ (ds:List jq) (Ws:List (List Nat)):Prop:=∀(i:Nat) (d:jq),ds[i]? = some d->(HQ d.o.op=false->Cl Ws i=[])/\∀k∈Cl Ws i,k∉H4 Ws d.un
section
variable {P:Program} {Pe:FuncId->ci} {w0:World} {ops:Array Oper} {ds:List jq} {Ws:List (List Nat)} {H:Nat} {PR:List ak->List ar->Prop}
def gG (ops:Array Oper) (listed:Array Bool):Prop:=∀k o,listed.getD k false=true->ops[k]? = some o->∀e∈o.after,Region.binds .any e=true->listed.getD e.on false=true
theorem fO {listed:Array Bool} (hc:gG ops listed) {i:Nat}:∀ (f j:Nat) (o:Oper),ops[j]? = some o->(∀ e∈o.after,Region.binds .any e=true->listed.getD e.on false=true)->Hc ops f j i=true->listed.getD i false=true
 |0,_,_,_,_,h=>by simp[Hc]at h
 |f+1,j,o,ho,hall,h=>by
   simp only[Hc,ho,List.any_eq_true,Ae,F9,E4]at h
   let ⟨e,he,hb,h⟩:=h
   have nB:e∈o.after:=by simpa using he
   have hl:=hall e nB hb;rcases h with rfl|h
   ·exact hl
   ·cases UM:ops[e.on]? with|none=>cases f<;>simp[Hc,UM]at h|some o'=>exact fO hc f e.on o' UM (λe' nB QX=>hc e.on o' hl UM e' nB QX) h
theorem fV {listed:Array Bool} (hc:gG ops listed) {i:Nat} (hi:i∈Region.ready .any ops listed):gG ops (listed.setIfInBounds i true):=by
 intro k o hk ho e he hb
 let ⟨_,oi,TD,hall⟩:=mem_ready.1 hi
 by_cases hki:i=k
 ·subst hki;rw[TD]at ho;cases ho;exact getD_set_true (hall e he hb)
 ·exact getD_set_true (hc k o (by rwa [getD_set_ne false hki]at hk) ho e he hb)
theorem aj0 (Sk:LQ ds Ws) {j:Nat} {x y:jq} (hy:ds[j]? = some y) (h:(!HQ y.o.op||x.un.contains j)=true):∀ k∈Cl Ws j,k∈H4 Ws x.un:=by
 intro k hk;cases hw:HQ y.o.op with
 |true=>simp[hw]at h;exact List.mem_flatMap.2 ⟨j,h,hk⟩
 |false=>rw[(Sk j y hy).1 hw]at hk;cases hk
theorem xV (hS:∀ f,(Pe f).Ok P f) {i:Nat} {PR K':List ak->List ar->Prop} (hk:∀ s l,PR s l->K' s l) {sl:List ak} {lh:List ar} (h:D6 w0 Pe ds Ws H i PR sl lh):D6 w0 Pe ds Ws H i K' sl lh:=by
 unfold D6 at *
 split at h
 ·exact hk _ _ h
 ·exact xG hS hk h
theorem hss (hS:∀ f,(Pe f).Ok P f) (hw:LQ ds Ws) {i j:Nat} (hg:ti ds i j=true) {PR:List ak->List ar->Prop} {sl:List ak} {lh:List ar}
 (h:D6 w0 Pe ds Ws H i (D6 w0 Pe ds Ws H j PR) sl lh):D6 w0 Pe ds Ws H j (D6 w0 Pe ds Ws H i PR) sl lh:=by
 unfold ti at hg;split at hg
 ·rename_i x y hx hy
  simp only[Ae]at hg
  let ⟨⟨⟨g1,g2⟩,g3⟩,g4⟩:=hg
  unfold D6 at h ⊢;simp only[hx,hy]at h ⊢;have s1:=aj0 (x:=x) hw hy g3;have s2:=aj0 (x:=y) hw hx g4;exact av1 hS g1 (by simpa using g2) s1 s2 (λk hk RX=>(hw i x hx).2 k hk (s1 k RX)) h
 ·cases hg
theorem hoc (hS:∀ f,(Pe f).Ok P f) (hw:LQ ds Ws) (hp:sr ops ds=true) (hlen:ds.length=ops.size) {i:Nat}:∀ (fuel:Nat) (listed:Array Bool) (sl:List ak) (lh:List ar),gG ops listed->i∈Region.ready .any ops listed ->
 D6 w0 Pe ds Ws H i (G7 w0 Pe ops ds Ws H PR fuel (listed.setIfInBounds i true)) sl lh->G7 w0 Pe ops ds Ws H PR (fuel+1) listed sl lh:=by
 have good:∀ (listed:Array Bool) (j:Nat),gG ops listed->i∈Region.ready .any ops listed->j∈Region.ready .any ops listed->j≠i->ti ds i j=true:=λlisted j hc hi hj RY=>by
  let ⟨ui,oi,TD,ai⟩:=mem_ready.1 hi
  let ⟨uj,oj,VA,aj⟩:=mem_ready.1 hj
  have li:i<ds.length:=by rw[hlen];exact(Array.getElem?_eq_some_iff.1 TD).1
  have lj:j<ds.length:=by rw[hlen];exact(Array.getElem?_eq_some_iff.1 VA).1
  simp only[sr,IE,List.mem_range]at hp;have:=hp i li j lj;simp only[F9,E4]at this;have no:∀ {x:Nat},listed.getD x true=false->listed.getD x false=true->False:=λ{x} M Q=>by
   rcases EM x listed.size with h|h
   ·simp[h]at M Q;rw[M]at Q;cases Q
   ·simp[Ki h]at M
  rcases this with ((h|h)|h)|h
  ·exact(RY h.symm).elim
  ·exact(no uj (fO hc _ i oi TD ai h)).elim
  ·exact(no ui (fO hc _ j oj VA aj h)).elim
  ·exact h
 intro fuel;induction fuel with
 |zero=>
   intro listed sl lh hc hi Pu;refine⟨λh=>(by rw[h]at hi;cases hi),λj hj=>?_⟩;by_cases Rl:j=i
   ·subst Rl;exact Pu
   ·exfalso
    have hr:=ready_mono hj Rl;have hnil:Region.ready .any ops (listed.setIfInBounds i true)=[]:=by
     have:D6 w0 Pe ds Ws H i (λ_ _=>Region.ready .any ops (listed.setIfInBounds i true)=[]) sl lh:=xV hS (λ_ _ h=>h.1) Pu;unfold D6 at this;split at this
     ·exact this
     ·exact pb hS this
    rw[hnil]at hr;cases hr
 |succ fuel ih=>
   intro listed sl lh hc hi Pu;refine⟨λh=>(by rw[h]at hi;cases hi),λj hj=>?_⟩;by_cases Rl:j=i
   ·subst Rl;exact Pu
   ·have M:D6 w0 Pe ds Ws H i (D6 w0 Pe ds Ws H j (G7 w0 Pe ops ds Ws H PR fuel ((listed.setIfInBounds i true).setIfInBounds j true))) sl lh :=
     xV hS (λs l h=>h.2 j (ready_mono hj Rl)) Pu
    have Q:=hss hS hw (good listed j hc hi hj Rl) M;refine xV hS (λs l h=>ih _ s l (fV hc hj) (ready_mono hi (Ne.symm Rl)) ?_) Q;rw[Ma _ _ Rl];exact h
def kA (w0:World) (Pe:FuncId->ci) (Ws:List (List Nat)) (H:Nat) (PR:List ak->List ar->Prop):List jq->Nat->List ak->List ar->Prop
 |[],_,sl,lh=>PR sl lh|d::rest,i,sl,lh=>MU w0 Pe (H4 Ws d.un) (Cl Ws i) (d.rk.map (H+·)) d.o sl lh (kA w0 Pe Ws H PR rest (i+1))
theorem oy (hS:∀ f,(Pe f).Ok P f) (hw:LQ ds Ws) (hp:sr ops ds=true) (hlen:ds.length=ops.size):∀ (l:List jq) (k:Nat) (listed:Array Bool) (sl:List ak) (lh:List ar),(∀ j,l[j]? = ds[k+j]?) ->
 A8 ops l.length k listed=true->gG ops listed->kA w0 Pe Ws H PR l k sl lh->G7 w0 Pe ops ds Ws H PR l.length listed sl lh
 |[],_,_,_,_,_,hB,_,h=>⟨by simpa[A8] using hB,h⟩
 |d::l,k,listed,sl,lh,hl,hB,hc,h=>by
   have h0:ds[k]? = some d:=by simpa using(hl 0).symm
   simp[Dl,A8,Ae]at hB
   let ⟨hr,hB'⟩:=hB
   have Vg:k∈Region.ready .any ops listed:=by simpa using hr
   refine hoc hS hw hp hlen l.length listed sl lh hc Vg ?_;unfold D6;simp[h0];refine xG hS (λs l' h=>?_) h;exact oy hS hw hp hlen l (k+1) _ s l' (λj=>by have:=hl (j+1);simpa[H9,Ig 1 j] using this) hB' (fV hc Vg) h
end
end Go.Sx
namespace Go.Sx
mutual
def ren (τ:Nat->Nat):ak->ak
 |.ptr (some (.l k off))=>.ptr (some (.l (τ k) off))|.slice (some (.l k off)) n c=>.slice (some (.l (τ k) off)) n c|.fn f xs ys=>.fn f (yr τ xs) (yr τ ys)|.agg cs=>.agg (yr τ cs)|.tup cs=>.tup (yr τ cs)|a=>a
def yr (τ:Nat->Nat):List ak->List ak
 |[]=>[]|a::l=>ren τ a::yr τ l
end
mutual
def l8 (p:Nat->Prop):ak->Prop
 |.ptr (some (.l k _))=>p k|.slice (some (.l k _)) _ _=>p k|.fn _ xs ys=>kv p xs/\kv p ys|.agg cs=>kv p cs|.tup cs=>kv p cs|_=>True
def kv (p:Nat->Prop):List ak->Prop
 |[]=>True|a::l=>l8 p a/\kv p l
end
mutual
theorem S72 {m m1:aN} {τ:Nat->Nat} {p:Nat->Prop} (h:∀ k b,p k->m (τ k)=some b->m1 k=some b):∀ (a:ak) (v:Value),l8 p a->AW m (ren τ a) v->AW m1 a v
 |.int ..,_,_,hv=>by simp[ren,AW]at hv ⊢;exact hv
 |.bool ..,_,_,hv=>by simp[ren,AW]at hv ⊢;exact hv
 |.str ..,_,_,hv=>by simp[ren,AW]at hv ⊢;exact hv
 |.ptr none,_,_,hv=>by simp[ren,AW,ef]at hv ⊢;exact hv
 |.ptr (some (.g _)),_,_,hv=>by simp[ren,AW,ef]at hv ⊢;exact hv
 |.ptr (some (.l k off)),_,hp,hv=>by
   simp[l8]at hp;simp[ren,AW,ef]at hv ⊢
   let ⟨PX,M,b,Q,h3⟩:=hv
   exact⟨PX,M,b,h k b hp Q,h3⟩
 |.slice none _ _,_,_,hv=>by simp[ren,AW,ef]at hv ⊢;exact hv
 |.slice (some (.g _)) _ _,_,_,hv=>by simp[ren,AW,ef]at hv ⊢;exact hv
 |.slice (some (.l k off)) _ _,_,hp,hv=>by
   simp[l8]at hp;simp[ren,AW,ef]at hv ⊢
   let ⟨PX,M,b,Q,h3⟩:=hv
   exact⟨PX,M,b,h k b hp Q,h3⟩
 |.fn _ xs ys,_,hp,hv=>by simp[l8]at hp;simp[ren,AW]at hv ⊢;let ⟨us,vs,M,Q,h3⟩:=hv;exact⟨us,vs,M,nL h xs _ hp.1 Q,nL h ys _ hp.2 h3⟩
 |.agg cs,_,hp,hv=>by simp[l8]at hp;simp[ren,AW]at hv ⊢;let ⟨vs,M,Q⟩:=hv;exact⟨vs,M,nL h cs _ hp Q⟩
 |.tup cs,_,hp,hv=>by simp[l8]at hp;simp[ren,AW]at hv ⊢;let ⟨vs,M,Q⟩:=hv;exact⟨vs,M,nL h cs _ hp Q⟩
 |.raw _,_,_,hv=>by simp[ren,AW]at hv ⊢;exact hv
 |.any,_,_,_=>by simp[AW]
theorem nL {m m1:aN} {τ:Nat->Nat} {p:Nat->Prop} (h:∀ k b,p k->m (τ k)=some b->m1 k=some b):∀ (az:List ak) (vs:List Value),kv p az->aE m (yr τ az) vs->aE m1 az vs
 |[],_,_,hv=>by simp[yr,aE]at hv ⊢;exact hv
 |a::az,_,hp,hv=>by simp[kv]at hp;simp[yr,aE]at hv ⊢;let ⟨u,us,M,Q,h3⟩:=hv;exact⟨u,us,M,S72 h a u hp.1 Q,nL h az us hp.2 h3⟩
end
def nq:List ak->List ak->Prop
 |[],[]=>True|a::l,a'::l'=>(a=.any∨a'=a)/\nq l l'|_,_=>False
theorem R71 {m:aN}:∀ {l l':List ak} {vs:List Value},nq l l'->aE m l' vs->aE m l vs
 |[],[],_,_,h=>h
 |a::l,a'::l',vs,hs,h=>by
   simp[nq]at hs;simp[aE]at h ⊢;obtain⟨u,us,rfl,M,Q⟩:=h;refine⟨u,us,rfl,?_,R71 hs.2 Q⟩;rcases hs.1 with rfl|rfl
   ·simp[AW]
   ·exact M
 |[],_::_,_,h,_=>by simp[nq]at h
 |_::_,[],_,h,_=>by simp[nq]at h
def m7 (p:Nat->Prop) (τ:Nat->Nat):List ak->List ak->Prop
 |[],[]=>True|a::l,a'::l'=>(a=.any∨(l8 p a/\a'=ren τ a))/\m7 p τ l l'|_,_=>False
theorem rJ {m m1:aN} {p:Nat->Prop} {τ:Nat->Nat} (hm:∀ k b,p k->m (τ k)=some b->m1 k=some b):∀ {l l':List ak} {vs:List Value},m7 p τ l l'->aE m l' vs->aE m1 l vs
 |[],[],_,_,h=>by simp[aE]at h ⊢;exact h
 |a::l,a'::l',vs,hs,h=>by
   simp[m7]at hs;simp[aE]at h ⊢;obtain⟨u,us,rfl,M,Q⟩:=h;refine⟨u,us,rfl,?_,rJ hm hs.2 Q⟩;rcases hs.1 with rfl|⟨h3,rfl⟩
   ·simp[AW]
   ·exact S72 hm a u h3 M
 |[],_::_,_,h,_=>by simp[m7]at h
 |_::_,[],_,h,_=>by simp[m7]at h
def isCells:Option ar->Bool
 |some (.cells ..)=>true|_=>false
def Ur (nb:Nat) (lh:List ar) (k:Nat):Prop:=k<nb∨isCells lh[k]? = true
structure axM (nb:Nat) (τ:Nat->Nat) (sl:List ak) (lh:List ar) (SD:List ak) (lh1:List ar):Prop where
 fix:∀k,k<nb->τ k=k
 len:nb<=lh1.length
 same:∀k,k<nb->isCells lh1[k]? = false->lh1[k]? = lh[k]?
 slots:m7 (Ur nb lh1) τ SD sl
 heap:∀k cs ty,lh1[k]? = some (.cells cs ty)->∃cs',lh[τ k]? = some (.cells cs' ty)/\m7 (Ur nb lh1) τ cs cs'
 inj:∀k k',isCells lh1[k]? = true->isCells lh1[k']? = true->τ k=τ k'->k=k'
def Sub (nb:Nat) (sl:List ak) (lh:List ar) (SD:List ak) (lh1:List ar):Prop:=(lh1=lh/\nq SD sl)∨∃τ,axM nb τ sl lh SD lh1
def o4 (nb:Nat) (lh:List ar) (m:aN) (lh':List ar) (m':aN):Prop :=
 (∀k b,k < nb->m k=some b->m' k=some b)/\∀k,k < nb->lh[k]? = some .hid->lh'[k]? = some .hid/\m' k=m k
theorem o4.refl (nb:Nat) (lh:List ar) (m:aN):o4 nb lh m lh m:=⟨λ_ _ _ h=>h,λ_ _ h=>⟨h,rfl⟩⟩
theorem o4.trans {nb:Nat} {l1 l2 l3:List ar} {m1 m2 m3:aN} (h:o4 nb l1 m1 l2 m2) (k:o4 nb l2 m2 l3 m3):o4 nb l1 m1 l3 m3 :=
 ⟨λj b hj hb=>k.1 j b hj (h.1 j b hj hb),λj hj hl=>⟨(k.2 j hj (h.2 j hj hl).1).1,((k.2 j hj (h.2 j hj hl).1).2).trans (h.2 j hj hl).2⟩⟩
theorem jI.toN {lh lh':List ar} {m m':aN} (h:jI lh m lh' m') (nb:Nat):o4 nb lh m lh' m':=⟨λk b _ hb=>h.1 k b hb,λk _ hl=>h.2 k hl⟩
section
variable {B:dN}
theorem Sub.rel {nb:Nat} {m:aN} {sl SD:List ak} {lh lh1:List ar} {a:Act} {w:World} (hs:Sub nb sl lh SD lh1) (h:kq B m sl lh a w) :
 ∃m1,kq B m1 SD lh1 a w/\o4 nb lh m lh1 m1:=by
 rcases hs with ⟨rfl,hs⟩|⟨τ,hs⟩
 ·exact⟨m,⟨R71 hs h.1,h.2.1,h.2.2⟩,o4.refl _ _ _⟩
 ·let m1 : aN:=λk=>if k<nb then m k else if isCells lh1[k]? then m (τ k) else none
  have hm:∀ k b,Ur nb lh1 k->m (τ k)=some b->m1 k=some b:=λk b hk hb=>by
   simp[m1];split
   ·rename_i Pj;rw[hs.fix k Pj]at hb;exact hb
   ·rename_i Pj
    rcases hk with hk|hk
    ·exact(Pj hk).elim
    ·rw[Ad hk];exact hb
  have UF:∀ k b,m1 k=some b->m (τ k)=some b:=λk b hb=>by
   simp[m1]at hb;split at hb
   ·rename_i Pj;rw[hs.fix k Pj];exact hb
   ·split at hb
    ·exact hb
    ·cases hb
  let ⟨M,Q,h3⟩:=h
  refine⟨m1,⟨rJ hm hs.slots M,Q,⟨h3.os,h3.tape,h3.output,h3.size,h3.old,h3.fsize,h3.kept,λk cs ty hk=>?_,λk k' b cs cs' ty ty' g1 g2 hb QX=>?_,λk hk=>?_,λk hk=>?_,λk b hk=>h3.rng _ b (UF k b hk)⟩⟩,λk b hk hb=>?_,λk hk hl=>?_⟩
  ·let ⟨cs',hl,hsub⟩:=hs.heap k cs ty hk
   let ⟨b,vs,hb,Qh,hh,hx⟩:=h3.loc (τ k) cs' ty hl
   exact⟨b,vs,hm k b (.inr (by rw[hk];rfl)) hb,rJ hm hsub Qh,hh,hx⟩
  ·let ⟨c1,Y3,_⟩:=hs.heap k cs ty g1
   let ⟨c2,q9,_⟩:=hs.heap k' cs' ty' g2
   exact hs.inj k k' (by rw[g1];rfl) (by rw[g2];rfl) (h3.inj _ _ b c1 c2 ty ty' Y3 q9 (UF k b hb) (UF k' b QX))
  ·have hn:¬ k<nb:=by have:=hs.len;omega
   simp[m1];rw[AU hn,D1 hk];rfl
  ·simp [m1]
   split
   ·rename_i Pj;have:=hs.same k Pj (by rw[hk];rfl);exact h3.dead k (by rw[← this];exact hk)
   ·rw[hk];rfl
  ·simp[m1];rw[Ad hk];exact hb
  ·have hc:isCells lh1[k]? = false:=by
    cases hc:isCells lh1[k]? with
    |false=>rfl
    |true=>
      exfalso;generalize hg:lh1[k]? = g at hc;cases g with
      |none=>cases hc
      |some ob=>cases ob with
        |cells cs ty=>
          let ⟨cs',RO,_⟩:=hs.heap k cs ty hg
          rw[hs.fix k hk,hl]at RO;cases RO
        |_=>cases hc
   exact⟨by rw[hs.same k hk hc];exact hl,by simp only[m1];rw[Ad hk]⟩
end
def acK:lZ->Bool
 |.new ..|.box ..|.bsl ..|.app ..|.mks ..=>true|_=>false
def yP:ak->List Nat
 |.ptr (some (.l k _))=>[k]|.slice (some (.l k _)) _ _=>[k]|_=>[]
def look (xs : List jt) (rks:List (Option Nat)):Nat->Nat->gn->List EK
 |0,_,_=>[]|_+1,_,.k _=>[]
 |f+1,n,.t s=>match (xs.take n).findIdx? (λx=>x.dst==some s) with
   |none=>[.slot s]
   |some i=>match xs[i]? with
     |none=>[]
     |some x=>match x.op with
       |.new ..|.box ..|.bsl ..|.mks ..=>(match rks.getD i none with|some r=>[.fresh r]|none=>[])|.fa _ a|.iaA _ _ a _|.iaS _ a _|.nz a|.mov a|.slS _ a ..=>look xs rks f i a|.app _ _ _ _ a _=>look xs rks f i a++(match rks.getD i none with|some r=>[.fresh r]|none=>[])
       |.ld (.t p)=>match (xs.take i).findIdx? (λx=>x.dst==some p) with
         |none=>[.load p 0]
         |some j=>match xs[j]? with
           |some y=>match y.op with|.fa off (.t PX)=>[.load PX off]|_=>[]
           |none=>[]
       |_=>[]
def V8 (w0:World) (lh:List ar) (sl:List ak) (H:Nat):EK->List Nat
 |.fresh r=>[H+r]|.slot s=>yP (sl.getD s .any)
 |.load s off=>match sl.getD s .any with
   |.ptr (some p)=>match ld w0 lh (p.add off) with|some v=>yP v|none=>[]
   |_=>[]
def ve (w0:World) (lh:List ar) (sl:List ak) (H:Nat):List EK->List Nat
 |[]=>[]|x::l=>V8 w0 lh sl H x++ve w0 lh sl H l
def mA (w0:World) (lh:List ar) (sl:List ak) (H:Nat):List jq->List (List Nat)
 |[]=>[]|d::l=>ve w0 lh sl H d.ws::mA w0 lh sl H l
theorem qv (w0:World) (lh:List ar) (sl:List ak) (H:Nat):∀ (l:List jq) (i:Nat),(mA w0 lh sl H l).getD i []=match l[i]? with|some d=>ve w0 lh sl H d.ws|none=>[]
 |[],i=>by simp[mA]
 |d::l,0=>by simp[mA]
 |d::l,i+1=>by simp[mA,EA];rw[← qv w0 lh sl H l i];simp[List.getD]
def Kk (k:Nat):List Nat->Prop
 |[]=>True|x::l=>k≠x/\Kk k l
def SY:List Nat->List Nat->Prop
 |[],_=>True|k::l,X=>Kk k X/\SY l X
theorem F72 {k:Nat}:∀ {l:List Nat},Kk k l->k∉l
 |[],_=>by simp
 |x::l,h=>by simp[Kk]at h;simp[Dq,not_or];exact⟨h.1,F72 h.2⟩
theorem R99:∀ {l X:List Nat},SY l X->∀ k∈l,k∉X
 |[],_,_,k,hk=>by cases hk
 |x::l,X,h,k,hk=>by
   simp[SY]at h;rcases List.mem_cons.1 hk with rfl|hk
   ·exact F72 h.1
   ·exact R99 h.2 k hk
def Fg (Ws:List (List Nat)):List jq->Nat->Prop
 |[],_=>True|d::l,i=>SY (Cl Ws i) (H4 Ws d.un)/\Fg Ws l (i+1)
theorem pp {ds:List jq} {Ws:List (List Nat)}:∀ (l:List jq) (k:Nat),(∀ j,l[j]? = ds[k+j]?)->Fg Ws l k->∀ (i:Nat) (d:jq),ds[k+i]? = some d->∀ x∈Cl Ws (k+i),x∉H4 Ws d.un
 |[],k,hl,_,i,d,hd=>by have:=hl i;rw[hd]at this;simp at this
 |e::l,k,hl,h,i,d,hd=>by
   simp[Fg]at h;cases i with
   |zero=>have h0:=hl 0;simp[Ej]at hd h0 ⊢;rw[hd]at h0;simp at h0;subst h0;exact R99 h.1
   |succ i=>have:=pp l (k+1) (λj=>by have:=hl (j+1);simpa[H9,Ig 1 j] using this) h.2 i d (by rw[show k+1+i=k+(i+1) from by omega];exact hd);rw[show k+1+i=k+(i+1) from by omega]at this;exact this
def RF (ds:List jq):Nat:=(ds.filter λd=>acK d.o.op).length
def ow (w0:World) (Pe:FuncId->ci) (ds:List jq) (sl:List ak) (lh:List ar) (PR:List ak->List ar->Prop):Prop :=
 Fg (mA w0 lh sl lh.length ds) ds 0/\kA w0 Pe (mA w0 lh sl lh.length ds) lh.length PR ds 0 sl (lh++List.replicate (RF ds) .dead)
def cS:List jt->Nat->List (Option Nat)
 |[],_=>[]|x::l,r=>if acK x.op then some r::cS l (r+1) else none::cS l r
def iO (ops:Array Oper) (xs:List jt) (rks:List (Option Nat)):List jt->Nat->List jq
 |[],_=>[]
 | x::l,i=>⟨x,rks.getD i none,(List.range xs.length).filter λj=>j != i&&(match xs[j]? with|some y=>HQ y.op|none=>false)&&!Hc ops xs.length i j&&!Hc ops xs.length j i,
    match x.op with
    |.new ..|.box ..|.bsl ..|.mks ..=>(match rks.getD i none with|some r=>[.fresh r]|none=>[])|.st _ a _=>look xs rks 8 i a|.clr _ _ a=>look xs rks 8 i a|.app _ _ _ _ a _=>look xs rks 8 i a++(match rks.getD i none with|some r=>[.fresh r]|none=>[])|_=>[]⟩::iO ops xs rks l (i+1)
def sh (P:Program) (AQ:List TypeId) (ops:Array Oper):Option (List jq) :=
 match fR P AQ ops ops.toList with
 |none=>none
 |some xs=>
   if P.follows .mixedOrders&&sr ops (iO ops xs (cS xs 0) xs 0)&&A8 ops (iO ops xs (cS xs 0) xs 0).length 0 (Array.replicate ops.size false)&&(iO ops xs (cS xs 0) xs 0).length==ops.size &&
    (iO ops xs (cS xs 0) xs 0).all (λd=>HQ d.o.op||d.ws.isEmpty) then some (iO ops xs (cS xs 0) xs 0) else none
theorem y6 (ops:Array Oper) (xs:List jt) (rks:List (Option Nat)):∀ (l:List jt) (i j:Nat),(iO ops xs rks l i)[j]?.map jq.o=l[j]?
 |[],_,_=>by simp[iO]
 |x::l,i,0=>by simp[iO]
 |x::l,i,j+1=>by simp[iO,EA];exact y6 ops xs rks l _ j
section
variable {P:Program} {B:dN} {Pe:FuncId->ci} {AQ:List TypeId} {F:Fence} {n:Nat} {ops:Array Oper} {ds:List jq} {Ws:List (List Nat)}
theorem mr:∀ (l:List Oper) (xs:List jt) (j:Nat) (o:Oper),fR P AQ ops l=some xs->l[j]? = some o->∃ x,xs[j]? = some x/\lT P AQ ops o=some x
 |[],_,_,_,_,h=>by simp at h
 |a::l,xs,j,o,hc,h=>by
   simp[fR]at hc;split at hc
   ·rename_i x xs' hx SQ
    cases hc;cases j with
    |zero=>simp at h;subst h;exact⟨x,rfl,hx⟩|succ j=>exact mr l xs' j o SQ (by simpa using h)
   ·cases hc
theorem F63 (hF:lC F) (hS:∀ f,(Pe f).Ok P f) (hE:∀ t∈AQ,dL P t) {X Q8:List Nat} {pl:Option Nat} {o:Oper} {x:jt} {i:Nat} (ho:ops[i]? = some o) (hx:lT P AQ ops o=some x)
 {PR:List ak->List ar->Prop} {K':Act->World->Prop} {Pg:Exit->Act->World->Prop} {sl:List ak} {lh:List ar} {m:aN} {a:Act} {w:World} (hs:kq B m sl lh a w) (h:MU B.w0 Pe X Q8 pl x sl lh PR)
 (hK:∀sl' lh' m' a' w',kq B m' sl' lh' a' w'->jI lh m lh' m'->PR sl' lh'->K' a' w'):wpOpIn F n P ops Pg i K' a w:=by
 have hSS:∀f,(Pe f).Sound P f:=λf=>(hS f).sound
 have run:∀ {j:lZ} (hj:jH P AQ o=some j),x.op=j->x.dst=o.dst->dK B.w0 Pe sl (hide X lh) pl (λv l=>kT Q8 l (hide X lh)/\PR (kD x sl (.run v l)) (lR Q8 lh (.run v l))) j ->
  o.wpIn F n P a w K' Pg:=λ{j} hj e1 e2 hv=>by
  have hres:=qm (B:=⟨B.w0,w,λb=>∃k cs ty,k∉X/\lh[k]? = some (.cells cs ty)/\m k=some b,B.ds⟩) hSS hE hj hs.1 (hs.2.2.hide X) hv;refine jZ hF hj hres λv w' ⟨r,m',lh',M,Q,h3,h4,h5⟩=>?_
  let ⟨g1,g2⟩:=hs.2.2.unhide h3 Q h4
  simp[kD,e2]at h5;exact hK _ _ m' _ _ (hs.put g2.1 g1 o.dst M) g2 h5
 have skip:∀(e2:x.dst=o.dst),PR (kD x sl .skip) lh->K' (a.put o.dst undef) w:=λe2 hk=>by simp[kD,e2]at hk;exact hK _ _ m _ _ (hs.put (aN.le_refl m) hs.2.2 o.dst (by simp[AW,aE,undef])) (jI.refl _ _) hk
 unfold wpOpIn;simp[ho];unfold MU pW at h;unfold lT at hx;split at hx
 ·rename_i j hj hg;cases hx;dsimp only at h;rw[Ad (by simp[Region.wanted,hg])];exact run hj rfl rfl h
 ·rename_i j nza14 want hj hg
  split at hx
  ·rename_i d hd
   cases hx;dsimp only at h
   let ⟨y1,y2,y3⟩:=r9 (ops:=ops) hs.1 hd
   split at h
   ·rename_i b hb
    have hy:=y1 b hb;by_cases W4:b=want
    ·subst W4;rw[Ad (by simp[Region.wanted,hg,hy])];exact run hj rfl rfl (h.1 rfl)
    ·rw[AU (by simp[Region.wanted,hg,hy,W4])];exact⟨λf _=>hF.fn f,skip rfl (h.2 (by cases b<;>cases want<;>simp_all))⟩
   ·rename_i vs hb;rw[AU (by simp[Region.wanted,hg,y2 _ hb])];exact⟨λf _=>hF.fn f,skip rfl h⟩
   ·rename_i hb;rw[AU (by simp[Region.wanted,hg,y3 _ _ hb])];exact⟨λf _=>hF.fn f,skip rfl h⟩
   ·exact h.elim
  ·cases hx
 ·cases hx
theorem hlk (hF:lC F) (hS:∀ f,(Pe f).Ok P f) (hE:∀ t∈AQ,dL P t) {H:Nat} {xs:List jt} (hc:fR P AQ ops ops.toList=some xs) (hd:∀ j:Nat,ds[j]?.map jq.o=xs[j]?)
 {PR:List ak->List ar->Prop} {Pg:Exit->Act->World->Prop} {lh0:List ar} {m0:aN} (hQ:∀sl' lh' m' a' w',kq B m' sl' lh' a' w'->jI lh0 m0 lh' m'->PR sl' lh'->Pg .normal a' w') :
 ∀(fuel:Nat) (listed:Array Bool) (sl:List ak) (lh:List ar) (m:aN) (a:Act) (w:World),kq B m sl lh a w->jI lh0 m0 lh m->G7 B.w0 Pe ops ds Ws H PR fuel listed sl lh->wpAnyIn F n P .any ops Pg fuel listed a w
 |0,_,_,_,_,_,_,hs,he,h=>⟨h.1,hQ _ _ _ _ _ hs he h.2⟩
 |fuel+1,listed,sl,lh,m,a,w,hs,he,h=>by
   refine⟨λhr=>hQ _ _ _ _ _ hs he (h.1 hr),λi hi=>?_⟩;have Q:=h.2 i hi
   let ⟨_,o,ho,_⟩:=mem_ready.1 hi
   let ⟨x,hx,Ud⟩:=mr ops.toList xs i o hc (by simpa using ho)
   have Rr:=hd i;rw[hx]at Rr;simp[Bb]at Rr
   let ⟨d,T8,T9⟩:=Rr
   unfold D6 at Q;simp[T8]at Q;rw[T9]at Q;exact F63 hF hS hE ho Ud hs Q λsl' lh' m' a' w' h3 h4 h5=>hlk hF hS hE hc hd hQ fuel _ sl' lh' m' a' w' h3 (he.trans h4) h5
theorem bk.deads {m:aN} {lh:List ar} {w:World} (h:bk B m lh w) (k:Nat):bk B m (lh++List.replicate k .dead) w:=by
 have hg:∀ j o,(lh++List.replicate k ar.dead)[j]? = some o->lh[j]? = some o∨(lh.length<=j/\o=.dead):=λj o hj=>by
  rw[E1]at hj;split at hj
  ·exact .inl hj
  ·rename_i Pj
   right;rw[List.getElem?_replicate]at hj;split at hj
   ·cases hj;exact⟨K,rfl⟩
   ·cases hj
 refine⟨h.os,h.tape,h.output,h.size,h.old,h.fsize,h.kept,λj cs ty hj=>?_,λj j' b cs cs' ty ty' M Q hb QX=>?_,λj hj=>h.dom j (by simp at hj;omega),λj hj=>?_,h.rng⟩
 ·rcases hg j _ hj with hl|⟨_,e⟩
  ·exact h.loc j cs ty hl
  ·cases e
 ·rcases hg j _ M with hl|⟨_,e⟩
  ·rcases hg j' _ Q with RO|⟨_,e⟩
   ·exact h.inj j j' b cs cs' ty ty' hl RO hb QX
   ·cases e
  ·cases e
 ·rcases hg j _ hj with hl|⟨Qm,_⟩
  ·exact h.dead j hl
  ·exact h.dom j Qm
theorem hiy (hF:lC F) (hS:∀ f,(Pe f).Ok P f) (hE:∀ t∈AQ,dL P t) {id:Nat} (hc:sh P AQ ops=some ds) {PR:List ak->List ar->Prop} {Pg:Exit->Act->World->Prop} {sl:List ak} {lh:List ar} {m:aN} {a:Act} {w:World}
 (hs:kq B m sl lh a w) (h:ow B.w0 Pe ds sl lh PR) (hQ:∀sl' lh' m' a' w',kq B m' sl' lh' a' w'->jI lh m lh' m'->PR sl' lh'->Pg .normal a' w'):(Code.region id ops true).wpIn F n P Pg a w:=by
 unfold sh at hc;split at hc
 ·cases hc
 ·rename_i xs SQ
  split at hc
  ·rename_i hcond
   cases hc;simp only[Ae,E4]at hcond
   let ⟨⟨⟨⟨M,Q⟩,h3⟩,h4⟩,h5⟩:=hcond
   let ⟨hw,ht⟩:=h
   have TY:LQ (iO ops xs (cS xs 0) xs 0) (mA B.w0 lh sl lh.length (iO ops xs (cS xs 0) xs 0)):=λi d hd=>by
    refine⟨λY7=>?_,?_⟩
    ·unfold Cl;rw[qv,hd];have:=List.all_eq_true.1 h5 d (Is hd);simp[Y7]at this;simp[this,ve]
    ·have:=pp (ds:=iO ops xs (cS xs 0) xs 0) (iO ops xs (cS xs 0) xs 0) 0 (λj=>by simp) hw i d (by simpa using hd);simpa using this
   generalize mA B.w0 lh sl lh.length (iO ops xs (cS xs 0) xs 0)=Ws at hw ht TY;refine wpIn_region_any M ?_;have RE:gG ops (Array.replicate ops.size false):=λk o hk=>by simp[Je]at hk;split at hk<;>simp at hk
   have hany:=oy hS TY Q h4 (iO ops xs (cS xs 0) xs 0) 0 _ sl _ (λj=>by simp) h3 RE ht;rw[← h4];have hext:jI lh m (lh++List.replicate (RF (iO ops xs (cS xs 0) xs 0)) .dead) m:=⟨aN.le_refl m,λk hk=>⟨by rw[BF (List.getElem?_eq_some_iff.1 hk).1];exact hk,rfl⟩⟩;rw[h4]at hany ⊢;exact hlk hF hS hE SQ (y6 ops xs (cS xs 0) xs 0) hQ _ _ sl _ m a _ ⟨hs.1,hs.2.1,(hs.2.2.deads _).drew _⟩ hext hany
  ·cases hc
end
end Go.Sx
namespace Go.Sx
inductive OT where|done|op (o:jt) (r:OT)|alt (a b:OT)
def qP (w0:World) (Pe:FuncId->ci):OT->List ak->List ar->(List ak->List ar->Prop)->Prop
 |.done,sl,lh,PR=>PR sl lh|.op o r,sl,lh,PR=>fH w0 Pe [o] sl lh λsl lh=>qP w0 Pe r sl lh PR
 |.alt a b,sl,lh,PR=>qP w0 Pe a sl lh PR/\qP w0 Pe b sl lh PR
def r8:lZ->Bool
 |.mov _|.fa ..|.len _|.fld ..|.iaS ..|.ext ..=>true|_=>false
def pv (sl:List ak):lZ->Option ak
 |.mov x=>some (arg sl x)
 |.fa off x=>match arg sl x with|.ptr (some p)=>some (.ptr (some (p.add off)))|_=>none
 |.len x=>match arg sl x with|.slice _ n _=>some (.int .i64 n)|_=>none
 |.fld off n x=>match arg sl x with
   |.agg cs=>(match n with|some n=>some (.agg ((cs.drop off).take n))|none=>cs[off]?)
   |_=>none
 |.iaS esz x ix=>match arg sl x,arg sl ix with
   |.slice (some PX) n _,.int _ i=>if 0<=i/\i<n then some (.ptr (some (PX.add (i.toNat*esz)))) else none
   |_,_=>none
 |.ext x i=>match arg sl x with|.tup vs=>vs[i]?|_=>none
 |_=>none
section
variable {w0:World} {Pe:FuncId->ci} {sl sl':List ak} {lh:List ar} {P:Program}
theorem BJ {op:lZ} {PR:ak->List ar->Prop} (h:r8 op=true):dK w0 Pe sl lh none PR op↔∃ v,pv sl op=some v/\PR v lh:=by
 cases op<;>simp only[r8,Dy]at h<;>simp only[dK,pv]
 case mov x=>exact⟨λh=>⟨_,rfl,h⟩,λ⟨_,e,h⟩=>by cases e;exact h⟩
 case fa off x=>
  generalize arg sl x=y
  match y with
  |.ptr (some p)=>exact⟨λh=>⟨_,rfl,h⟩,λ⟨_,e,h⟩=>by cases e;exact h⟩|.ptr none|.int ..|.bool _|.str _|.slice ..|.fn ..|.agg _|.tup _|.raw _|.any=>exact⟨λh=>h.elim,λ⟨_,e,_⟩=>by cases e⟩
 case len x=>
  generalize arg sl x=y
  match y with
  |.slice ..=>exact⟨λh=>⟨_,rfl,h⟩,λ⟨_,e,h⟩=>by cases e;exact h⟩|.ptr _|.int ..|.bool _|.str _|.fn ..|.agg _|.tup _|.raw _|.any=>exact⟨λh=>h.elim,λ⟨_,e,_⟩=>by cases e⟩
 case fld off n x=>
  generalize arg sl x=y
  match y,n with
  |.agg cs,some n=>exact⟨λh=>⟨_,rfl,h⟩,λ⟨_,e,h⟩=>by cases e;exact h⟩|.agg cs,none=>exact Iff.rfl|.ptr _,_|.int ..,_|.bool _,_|.str _,_|.slice ..,_|.fn ..,_|.tup _,_|.raw _,_|.any,_=>exact⟨λh=>h.elim,λ⟨_,e,_⟩=>by cases e⟩
 case iaS esz x ix=>
  generalize arg sl x=y;generalize arg sl ix=z
  match y,z with
  |.slice (some PX) n _,.int _ i=>
    dsimp only
    constructor
    ·rintro⟨M,Q,q',e,h3⟩;cases e;exact⟨_,Ad ⟨M,Q⟩,h3⟩
    ·rintro⟨v,e,h3⟩
     split at e
     ·rename_i h;cases e;exact⟨h.1,h.2,PX,rfl,h3⟩
     ·cases e
  |.slice none _ _,.int _ _=>exact⟨λ⟨_,_,_,e,_⟩=>(by cases e),λ⟨_,e,_⟩=>(by cases e)⟩|.slice ..,.ptr _|.slice ..,.bool _|.slice ..,.str _|.slice ..,.slice ..|.slice ..,.fn ..|.slice ..,.agg _|.slice ..,.tup _|.slice ..,.raw _|.slice ..,.any=>exact⟨λh=>h.elim,λ⟨_,e,_⟩=>by split at e<;>simp_all⟩|.ptr _,_|.int ..,_|.bool _,_|.str _,_|.agg _,_|.fn ..,_|.tup _,_|.raw _,_|.any,_=>exact⟨λh=>h.elim,λ⟨_,e,_⟩=>by cases e⟩
 case ext x i=>
  generalize arg sl x=y
  match y with
  |.tup vs=>exact Iff.rfl|.ptr _|.int ..|.bool _|.str _|.slice ..|.fn ..|.agg _|.raw _|.any=>exact⟨λh=>h.elim,λ⟨_,e,_⟩=>by cases e⟩
theorem SUn {op:lZ} (h:∀ x∈op.args,arg sl x=arg sl' x):pv sl op=pv sl' op:=by
 cases op<;>simp[lZ.args,Dq,H8,or_false,Ka,forall_eq]at h<;>simp[pv]
 all_goals first
  |rw[h]|rw[h.1,h.2]
end
def G4 (g:Nat->Option OT):List Nat->Option OT
 |[]=>some .done|[i]=>g i
 |i::j::l=>match g i,G4 g (j::l) with|some a,some b=>some (.alt a b)|_,_=>none
def he1 (xs:List jt) (i:Nat):Bool:=match xs[i]? with|some x=>r8 x.op|none=>false
def LZ (ops:Array Oper) (xs:List jt):Nat->Array Bool->Option OT
 |0,listed=>if(Region.ready .any ops listed).isEmpty then some .done else none
 |f+1,listed=>match (Region.ready .any ops listed).find? (he1 xs) with
   |some j=>match xs[j]?,LZ ops xs f (listed.setIfInBounds j true) with|some x,some t=>some (.op x t)|_,_=>none
   |none=>G4 (λi=>match xs[i]?,LZ ops xs f (listed.setIfInBounds i true) with|some x,some t=>some (.op x t)|_,_=>none) (Region.ready .any ops listed)
def qh (ops:Array Oper) (xs:List jt):Bool :=
 (List.range xs.length).all λi=>(List.range xs.length).all λj=>i==j||Hc ops xs.length i j||Hc ops xs.length j i||(match xs[i]?,xs[j]? with
    |some x,some y=>!r8 x.op||pE x y
    |_,_=>false)
def wOf (xs:List jt):Bool:=xs.any λx=>match x.op with
 |.len (.t d)=>xs.any λy=>y.dst==some d&&match y.op with|.call ..=>true|_=>false
 |_=>false
def Cz (P:Program) (AQ:List TypeId) (ops:Array Oper):Option OT :=
 match fR P AQ ops ops.toList with
 |none=>none|some xs=>if P.follows .mixedOrders&&(xs.all (λx=>x.guard.isNone)&&(wOf xs&&(qh ops xs&&xs.length==ops.size))) then LZ ops xs ops.size (Array.replicate ops.size false) else none
section
variable {P:Program} {Pe:FuncId->ci} {w0:World} {ops:Array Oper} {xs:List jt} {PR:List ak->List ar->Prop}
def BO (w0:World) (Pe:FuncId->ci) (ops:Array Oper) (xs:List jt) (PR:List ak->List ar->Prop):Nat->Array Bool->List ak->List ar->Prop
 |0,listed,sl,lh=>Region.ready .any ops listed=[]/\PR sl lh
 | fuel+1,listed,sl,lh=>(Region.ready .any ops listed=[]->PR sl lh) /\
    ∀i∈Region.ready .any ops listed,∀x,xs[i]? = some x->dK w0 Pe sl lh none (λv l=>BO w0 Pe ops xs PR fuel (listed.setIfInBounds i true) (fl sl x.dst v) l) x.op
theorem hu' {x:gn} {d:Option Nat} {sl:List ak} {v:ak} (h:∀ t,d=some t->t∉sH [x]):arg (fl sl d v) x=arg sl x:=by
 cases x with
 |k a=>rfl
 |t i=>simp[arg];exact CvN λe=>h i e (by simp[sH])
theorem qo {x:jt} {d:Option Nat} {sl:List ak} {v:ak} (h:∀ t,d=some t->t∉x.reads):∀ y∈x.op.args,arg (fl sl d v) y=arg sl y:=λy hy=>hu' λt ht hm=>h t ht (by
 cases y with
 |k a=>simp[sH]at hm
 |t i=>simp[sH]at hm;subst hm;exact Jj _ (List.mem_filterMap.2 ⟨_,hy,rfl⟩))
theorem hoj (hS:∀ f,(Pe f).Ok P f) (hp:qh ops xs=true) (hlen:xs.length=ops.size) {i:Nat} {x:jt} (hx:xs[i]? = some x) (Vf:r8 x.op=true):∀ (fuel:Nat) (listed:Array Bool) (sl:List ak) (lh:List ar),gG ops listed->i∈Region.ready .any ops listed ->
 dK w0 Pe sl lh none (λv l=>BO w0 Pe ops xs PR fuel (listed.setIfInBounds i true) (fl sl x.dst v) l) x.op->BO w0 Pe ops xs PR (fuel+1) listed sl lh:=by
 have good:∀ (listed:Array Bool) (j:Nat) (y:jt),gG ops listed->i∈Region.ready .any ops listed->j∈Region.ready .any ops listed->j≠i->xs[j]? = some y->pE x y=true:=λlisted j y hc hi hj RY hy=>by
  let ⟨ui,oi,TD,ai⟩:=mem_ready.1 hi
  let ⟨uj,oj,VA,aj⟩:=mem_ready.1 hj
  have li:i<xs.length:=by rw[hlen];exact(Array.getElem?_eq_some_iff.1 TD).1
  have lj:j<xs.length:=by rw[hlen];exact(Array.getElem?_eq_some_iff.1 VA).1
  simp[qh,IE,List.mem_range]at hp;have:=hp i li j lj;simp[F9,E4,hx,hy,Vf]at this;have no:∀ {x:Nat},listed.getD x true=false->listed.getD x false=true->False:=λ{x} M Q=>by
   rcases EM x listed.size with h|h
   ·simp[h]at M Q;rw[M]at Q;cases Q
   ·simp[Ki h]at M
  rcases this with ((h|h)|h)|h
  ·exact(RY h.symm).elim
  ·exact(no uj (fO hc _ i oi TD ai h)).elim
  ·exact(no ui (fO hc _ j oj VA aj h)).elim
  ·simpa using h
 intro fuel;induction fuel with
 |zero=>
   intro listed sl lh hc hi Pu;refine⟨λh=>(by rw[h]at hi;cases hi),λj hj y hy=>?_⟩;by_cases Rl:j=i
   ·subst Rl;rw[hx]at hy;cases hy;exact Pu
   ·exfalso
    have hr:=ready_mono hj Rl
    let ⟨v,_,Pu⟩:=(BJ Vf).1 Pu
    have hnil:=Pu.1;rw[hnil]at hr;cases hr
 |succ fuel ih=>
   intro listed sl lh hc hi Pu;refine⟨λh=>(by rw[h]at hi;cases hi),λj hj y hy=>?_⟩;by_cases Rl:j=i
   ·subst Rl;rw[hx]at hy;cases hy;exact Pu
   ·let ⟨v,hv,Pu⟩:=(BJ Vf).1 Pu
    let ⟨a1,a2,a3⟩:=pR (good listed j y hc hi hj Rl hy)
    have M:=Pu.2 j (ready_mono hj Rl) y hy;rw[qd (sl':=sl) (qo (λt ht=>a1 t ht))]at M;refine dZ hS (λu l h=>?_) M;refine ih _ _ l (fV hc hj) (ready_mono hi (Ne.symm Rl)) ?_;rw[BJ Vf];refine⟨v,?_,?_⟩
    ·rw[SUn (sl':=sl) (qo (λt ht=>a3 t ht))];exact hv
    ·rw[Ma _ _ Rl,uo (d:=y.dst) (d':=x.dst) (λk hk RX=>a2 k RX hk)];exact h
theorem zF {g:Nat->Option OT} {sl:List ak} {lh:List ar}:∀ {l:List Nat} {t:OT},G4 g l=some t->qP w0 Pe t sl lh PR->∀ i∈l,∃ u,g i=some u/\qP w0 Pe u sl lh PR
 |[],_,_,_,i,hi=>by cases hi
 |[j],t,h,hv,i,hi=>by simp at hi;subst hi;exact⟨t,h,hv⟩
 |j::k::l,t,h,hv,i,hi=>by
   simp[G4]at h;split at h
   ·rename_i a b ha hb
    cases h;rcases List.mem_cons.1 hi with rfl|hi
    ·exact⟨a,ha,hv.1⟩
    ·exact zF hb hv.2 i hi
   ·cases h
theorem CV (hS:∀ f,(Pe f).Ok P f) (hp:qh ops xs=true) (hg:xs.all (λx=>x.guard.isNone)=true) (hlen:xs.length=ops.size):∀ (fuel:Nat) (listed:Array Bool) (sl:List ak) (lh:List ar) (t:OT),gG ops listed->LZ ops xs fuel listed=some t->qP w0 Pe t sl lh PR->BO w0 Pe ops xs PR fuel listed sl lh
 |0,listed,sl,lh,t,hc,ht,hv=>by
   simp only[LZ]at ht;split at ht
   ·rename_i he;cases ht;exact⟨by simpa using he,hv⟩
   ·cases ht
 |fuel+1,listed,sl,lh,t,hc,ht,hv=>by
   have one:∀ (x:jt) (j:Nat),xs[j]? = some x->∀ {PR:List ak->List ar->Prop},fH w0 Pe [x] sl lh PR->dK w0 Pe sl lh none (λv l=>PR (fl sl x.dst v) l) x.op:=λx j hx PR h=>by
    have Xx:x.guard=none:=by have:=List.all_eq_true.1 hg x (Is hx);simpa using this
    simp[fH,Xx]at h;exact h
   simp[LZ]at ht;split at ht
   ·rename_i j hj
    split at ht
    ·rename_i x u hx hu
     cases ht;have Y2:=List.mem_of_find?_eq_some hj;have pr:r8 x.op=true:=by have:=List.find?_some hj;simpa[he1,hx] using this
     refine hoj hS hp hlen hx pr fuel listed sl lh hc Y2 ?_;exact dZ hS (λv l h=>CV hS hp hg hlen fuel _ _ l u (fV hc Y2) hu h) (one x j hx hv)
    ·cases ht
   ·rename_i hnone
    refine⟨λhr=>?_,λi hi x hx=>?_⟩
    ·rw[hr]at ht;simp[G4,Ak]at ht;subst ht;exact hv
    ·let ⟨u,hu,su⟩:=zF ht hv i hi
     rw[hx]at hu;split at hu
     ·rename_i x' r e1 hr;cases e1;cases hu;exact dZ hS (λv l h=>CV hS hp hg hlen fuel _ _ l r (fV hc hi) hr h) (one x i hx su)
     ·cases hu
end
section
variable {P:Program} {Pe:FuncId->ci} {AQ:List TypeId} {B:dN} {F:Fence} {n:Nat} {ops:Array Oper}
theorem sc (hF:lC F) (hS:∀ f,(Pe f).Ok P f) (hE:∀ t∈AQ,dL P t) {xs:List jt} (hc:fR P AQ ops ops.toList=some xs) (hg:xs.all (λx=>x.guard.isNone)=true)
 {PR:List ak->List ar->Prop} {Pg:Exit->Act->World->Prop} {lh0:List ar} {m0:aN} (hQ:∀sl' lh' m' a' w',kq B m' sl' lh' a' w'->jI lh0 m0 lh' m'->PR sl' lh'->Pg .normal a' w') :
 ∀(fuel:Nat) (listed:Array Bool) (sl:List ak) (lh:List ar) (m:aN) (a:Act) (w:World),kq B m sl lh a w->jI lh0 m0 lh m->BO B.w0 Pe ops xs PR fuel listed sl lh->wpAnyIn F n P .any ops Pg fuel listed a w
 |0,_,_,_,_,_,_,hs,he,h=>⟨h.1,hQ _ _ _ _ _ hs he h.2⟩
 |fuel+1,listed,sl,lh,m,a,w,hs,he,h=>by
   have hSS:∀f,(Pe f).Sound P f:=λf=>(hS f).sound;refine⟨λhr=>hQ _ _ _ _ _ hs he (h.1 hr),λi hi=>?_⟩
   let ⟨_,o,ho,_⟩:=mem_ready.1 hi
   let ⟨x,hx,Ud⟩:=mr ops.toList xs i o hc (by simpa using ho)
   have Q:=h.2 i hi x hx;have Xx:x.guard=none:=by have:=List.all_eq_true.1 hg x (Is hx);simpa using this
   unfold wpOpIn;simp[ho];unfold lT at Ud;split at Ud
   ·rename_i j hj ip13;cases Ud;rw[Ad (by simp[Region.wanted,ip13])];refine jZ hF hj (qm hSS hE hj hs.1 hs.2.2 Q) λv w' ⟨r,m',lh',h3,h4,h5,h6⟩=>?_;exact sc hF hS hE hc hg hQ fuel _ _ _ m' _ _ (hs.put h4.1 h5 o.dst h3) (he.trans h4) h6
   ·split at Ud
    ·cases Ud;cases Xx
    ·cases Ud
   ·cases Ud
theorem hnp (hF:lC F) (hS:∀ f,(Pe f).Ok P f) (hE:∀ t∈AQ,dL P t) {id:Nat} {t:OT} (hc:Cz P AQ ops=some t) {PR:List ak->List ar->Prop} {Pg:Exit->Act->World->Prop} {sl:List ak} {lh:List ar} {m:aN} {a:Act} {w:World}
 (hs:kq B m sl lh a w) (h:qP B.w0 Pe t sl lh PR) (hQ:∀sl' lh' m' a' w',kq B m' sl' lh' a' w'->jI lh m lh' m'->PR sl' lh'->Pg .normal a' w'):(Code.region id ops true).wpIn F n P Pg a w:=by
 unfold Cz at hc;split at hc
 ·cases hc
 ·rename_i xs SQ
  split at hc
  ·rename_i hcond
   simp only[Ae,E4]at hcond
   let ⟨M,Q,_,h4,h5⟩:=hcond
   refine wpIn_region_any M ?_;have RE:gG ops (Array.replicate ops.size false):=λk o hk=>by simp[Je]at hk;split at hk<;>simp at hk
   have hall:=CV hS h4 Q h5 ops.size _ sl lh t RE hc h;exact sc hF hS hE SQ Q hQ _ _ sl lh m a _ ⟨hs.1,hs.2.1,hs.2.2.drew _⟩ (jI.refl _ _) hall
  ·cases hc
end
end Go.Sx
namespace Go.Sx
def zI (Pe:FuncId->ci):FuncId->ci:=λf w0 args lh PR=>Pe f w0 args lh λv l=>(∃t,l=lh++t)/\PR v l
theorem r6 {P:Program} {Pe:FuncId->ci} (hS:∀ f,(Pe f).Ok P f):∀ f,(zI Pe f).Ok P f:=λf=>
 ⟨λB m lh w args vs PR M Q h3=>(hS f).sound B m lh w args vs PR M Q ((hS f).mono _ _ _ _ _ (λ_ _ h=>h.2) h3),
  λw0 args lh PR K' hk h=>(hS f).mono _ _ _ _ _ (λr l h=>⟨h.1,hk _ _ h.2⟩) h,
  λw0 args lh Pg h=>(hS f).strict _ _ _ _ ((hS f).mono _ _ _ _ _ (λ_ _ h=>h.2) h)⟩
def Tb:lZ->Bool
 |.st ..|.app ..|.clr ..|.bsl ..=>false|_=>true
def XX:lZ->Bool
 |.ld _|.lds ..=>true|_=>false
def O2 (op:lZ):Bool:=XX op||r8 op
def pm (w0:World) (lh:List ar) (sl:List ak):lZ->Option ak
 |.ld x=>match arg sl x with|.ptr (some p)=>ld w0 lh p|_=>none
 |.lds n x=>match arg sl x with|.ptr (some p)=>(lds w0 lh p n).map .agg|_=>none
 |op=>pv sl op
section
variable {w0:World} {Pe:FuncId->ci} {sl sl':List ak} {lh:List ar} {P:Program}
theorem G2 {op:lZ} {PR:ak->List ar->Prop} (h:O2 op=true):dK w0 Pe sl lh none PR op↔∃ v,pm w0 lh sl op=some v/\PR v lh:=by
 cases op
 case ld x=>
  simp[dK,pm];generalize arg sl x=y
  match y with
  |.ptr (some p)=>exact Iff.rfl|.ptr none|.int ..|.bool _|.str _|.slice ..|.fn ..|.agg _|.tup _|.raw _|.any=>exact⟨λh=>h.elim,λ⟨_,e,_⟩=>by cases e⟩
 case lds n x=>
  simp[dK,pm];generalize arg sl x=y
  match y with
  |.ptr (some p)=>
    constructor
    ·rintro⟨cs,e,h⟩;exact⟨_,by show Option.map ak.agg (lds w0 lh p n)=_;rw[e];rfl,h⟩
    ·rintro⟨v,e,h⟩
     dsimp only at e;cases hl:lds w0 lh p n with
     |none=>rw[hl]at e;cases e|some cs=>rw[hl]at e;cases e;exact⟨cs,hl,h⟩
  |.ptr none|.int ..|.bool _|.str _|.slice ..|.fn ..|.agg _|.tup _|.raw _|.any=>exact⟨λh=>h.elim,λ⟨_,e,_⟩=>by cases e⟩
 all_goals first
  |(cases h;done)|exact BJ (Pe:=Pe) h
theorem hro {op:lZ} (h:∀ x∈op.args,arg sl x=arg sl' x):pm w0 lh sl op=pm w0 lh sl' op:=by
 cases op
 case ld x=>simp[lZ.args,Dq,H8,or_false,forall_eq]at h;simp[pm];rw[h]
 case lds n x=>simp[lZ.args,Dq,H8,or_false,forall_eq]at h;simp[pm];rw[h]
 all_goals exact SUn h
theorem yaf {op:lZ} {l:List ar} (h:XX op=false):pm w0 l sl op=pm w0 lh sl op:=by cases op<;>first|rfl|cases h
theorem S51 {t:List ar} {k:Nat} {o:ar} (h:lh[k]? = some o):(lh++t)[k]? = some o:=by rw[BF (List.getElem?_eq_some_iff.1 h).1];exact h
theorem if2 {t:List ar} {p:js} {v:ak} (h:ld w0 lh p=some v):ld w0 (lh++t) p=some v:=by
 cases p with
 |l k off=>
   simp[ld]at h ⊢;split at h
   ·rename_i cs ty hk;rw[S51 hk];exact h
   ·cases h
 |g a=>exact h
theorem if8 {t:List ar} {p:js} {n:Nat} {v:List ak} (h:lds w0 lh p n=some v):lds w0 (lh++t) p n=some v:=by
 cases p with
 |l k off=>
   simp[lds]at h ⊢;split at h
   ·rename_i cs ty hk;rw[S51 hk];exact h
   ·cases h
 |g a=>exact h
theorem ov2 {op:lZ} {t:List ar} {v:ak} (h:pm w0 lh sl op=some v):pm w0 (lh++t) sl op=some v:=by
 cases op
 case ld x=>
  simp[pm]at h ⊢;split at h
  ·exact if2 h
  ·cases h
 case lds n x=>
  simp[pm]at h ⊢;split at h
  ·rename_i p _
   cases hl:lds w0 lh p n with
   |none=>rw[hl]at h;cases h|some cs=>rw[hl]at h;rw[if8 hl];exact h
  ·cases h
 all_goals exact h
theorem hze (hS:∀ f,(Pe f).Ok P f) {op:lZ} {PR:ak->List ar->Prop} (hg:Tb op=true) (h:dK w0 (zI Pe) sl lh none PR op):dK w0 (zI Pe) sl lh none (λv l=>(∃ t,l=lh++t)/\PR v l) op:=by
 have hP:=r6 hS;have h0:∃t,lh=lh++t:=⟨[],au⟩;have at0:∀{op:lZ},(∀PR:ak->List ar->Prop,dK w0 (zI Pe) sl lh none PR op=dK w0 (zI Pe) sl lh none (λv _=>PR v lh) op)->dK w0 (zI Pe) sl lh none PR op->dK w0 (zI Pe) sl lh none (λv l=>(∃t,l=lh++t)/\PR v l) op:=λe h=>by rw[e]at h ⊢;exact dZ hP (λv l hk=>⟨h0,hk⟩) h
 cases op
 case new ty z=>exact⟨⟨_,rfl⟩,h⟩
 case box ty x=>exact⟨h.1,⟨_,rfl⟩,h.2⟩
 case mks ty n cs=>exact⟨⟨_,rfl⟩,h⟩
 case call f xs=>simp only[dK,zI]at h ⊢;exact(hS f).mono _ _ _ _ _ (λv l hk=>⟨hk.1,hk⟩) h
 case callv x xs=>
  simp only[dK,zI]at h ⊢;split at h
  ·exact(hS _).mono _ _ _ _ _ (λv l hk=>⟨hk.1,hk⟩) h
  ·exact h.elim
 all_goals first
  |(cases hg;done)|exact at0 (λPR=>rfl) h
end
def aox (xs:List jt) (i:Nat):Bool:=match xs[i]? with|some x=>O2 x.op|none=>false
def MP (ops:Array Oper) (xs:List jt):Nat->Array Bool->Option OT
 |0,listed=>if(Region.ready .any ops listed).isEmpty then some .done else none
 |f+1,listed=>match (Region.ready .any ops listed).find? (aox xs) with
   |some j=>match xs[j]?,MP ops xs f (listed.setIfInBounds j true) with|some x,some t=>some (.op x t)|_,_=>none
   |none=>G4 (λi=>match xs[i]?,MP ops xs f (listed.setIfInBounds i true) with|some x,some t=>some (.op x t)|_,_=>none) (Region.ready .any ops listed)
def wG (ops:Array Oper) (xs:List jt):Bool :=
 (List.range xs.length).all λi=>(List.range xs.length).all λj=>i==j||Hc ops xs.length i j||Hc ops xs.length j i||(match xs[i]?,xs[j]? with
    |some x,some y=>!O2 x.op||(pE x y&&(!XX x.op||Tb y.op))
    |_,_=>false)
def hr1 (P:Program) (f:FuncId):Bool:=match P.funcs[f]? with
 |some fn=>fn.resultTypes.toList.any λt=>match rL P t with
   |some z=>z.toList.any λv=>match v with|.slice ..=>true|_=>false
   |none=>false
 |none=>false
def hvz (P:Program) (xs:List jt):Bool:=xs.any λx=>match x.op with
 |.call f _=>hr1 P f
 |.agg z ps=>ps.any λp=>(match z[p.1]? with
   |some (.slice none 0 0)=>true
   |_=>false)&&match p.2.2 with
     |.t d=>xs.any λy=>y.dst==some d&&match y.op with|.callv ..=>true|_=>false
     |_=>false
 |_=>false
def um (P:Program) (AQ:List TypeId) (ops:Array Oper):Option OT :=
 match fR P AQ ops ops.toList with
 |none=>none|some xs=>if P.follows .mixedOrders&&(xs.all (λx=>x.guard.isNone)&&(hvz P xs&&(wG ops xs&&xs.length==ops.size))) then MP ops xs ops.size (Array.replicate ops.size false) else none
section
variable {P:Program} {Pe:FuncId->ci} {w0:World} {ops:Array Oper} {xs:List jt} {PR:List ak->List ar->Prop}
theorem hyv (hS:∀ f,(Pe f).Ok P f) (hp:wG ops xs=true) (hlen:xs.length=ops.size) {i:Nat} {x:jt} (hx:xs[i]? = some x) (Vf:O2 x.op=true):∀ (fuel:Nat) (listed:Array Bool) (sl:List ak) (lh:List ar),gG ops listed->i∈Region.ready .any ops listed ->
 dK w0 (zI Pe) sl lh none (λv l=>BO w0 (zI Pe) ops xs PR fuel (listed.setIfInBounds i true) (fl sl x.dst v) l) x.op->BO w0 (zI Pe) ops xs PR (fuel+1) listed sl lh:=by
 have hP:=r6 hS;have good:∀ (listed:Array Bool) (j:Nat) (y:jt),gG ops listed->i∈Region.ready .any ops listed->j∈Region.ready .any ops listed->j≠i->xs[j]? = some y->pE x y=true/\(XX x.op=false∨Tb y.op=true):=λlisted j y hc hi hj RY hy=>by
  let ⟨ui,oi,TD,ai⟩:=mem_ready.1 hi
  let ⟨uj,oj,VA,aj⟩:=mem_ready.1 hj
  have li:i<xs.length:=by rw[hlen];exact(Array.getElem?_eq_some_iff.1 TD).1
  have lj:j<xs.length:=by rw[hlen];exact(Array.getElem?_eq_some_iff.1 VA).1
  simp[wG,IE,List.mem_range]at hp;have:=hp i li j lj;simp only[F9,E4,hx,hy,Vf]at this;have no:∀ {x:Nat},listed.getD x true=false->listed.getD x false=true->False:=λ{x} M Q=>by
   rcases EM x listed.size with h|h
   ·simp[h]at M Q;rw[M]at Q;cases Q
   ·simp[Ki h]at M
  rcases this with ((h|h)|h)|h
  ·exact(RY h.symm).elim
  ·exact(no uj (fO hc _ i oi TD ai h)).elim
  ·exact(no ui (fO hc _ j oj VA aj h)).elim
  ·simp only[Fs,Ae,F9,EY,Dy,false_or]at h;exact h
 intro fuel;induction fuel with
 |zero=>
   intro listed sl lh hc hi Pu;refine⟨λh=>(by rw[h]at hi;cases hi),λj hj y hy=>?_⟩;by_cases Rl:j=i
   ·subst Rl;rw[hx]at hy;cases hy;exact Pu
   ·exfalso
    have hr:=ready_mono hj Rl
    let ⟨v,_,Pu⟩:=(G2 Vf).1 Pu
    have hnil:=Pu.1;rw[hnil]at hr;cases hr
 |succ fuel ih=>
   intro listed sl lh hc hi Pu;refine⟨λh=>(by rw[h]at hi;cases hi),λj hj y hy=>?_⟩;by_cases Rl:j=i
   ·subst Rl;rw[hx]at hy;cases hy;exact Pu
   ·let ⟨v,hv,Pu⟩:=(G2 Vf).1 Pu
    let ⟨ly,V7⟩:=good listed j y hc hi hj Rl hy
    let ⟨a1,a2,a3⟩:=pR ly
    have M:=Pu.2 j (ready_mono hj Rl) y hy;rw[qd (sl':=sl) (qo (λt ht=>a1 t ht))]at M;have Q:dK w0 (zI Pe) sl lh none (λu l=>pm w0 l sl x.op=some v/\BO w0 (zI Pe) ops xs PR fuel ((listed.setIfInBounds i true).setIfInBounds j true) (fl (fl sl x.dst v) y.dst u) l) y.op:=by
     rcases V7 with V7|V7
     ·exact dZ hP (λu l h=>⟨(yaf V7).trans hv,h⟩) M
     ·exact dZ hP (λu l h=>⟨by obtain⟨⟨t,rfl⟩,_⟩:=h;exact ov2 hv,h.2⟩) (hze hS V7 M)
    refine dZ hP (λu l h=>?_) Q;refine ih _ _ l (fV hc hj) (ready_mono hi (Ne.symm Rl)) ?_;rw[G2 Vf];refine⟨v,?_,?_⟩
    ·rw[hro (sl':=sl) (qo (λt ht=>a3 t ht))];exact h.1
    ·rw[Ma _ _ Rl,uo (d:=y.dst) (d':=x.dst) (λk hk RX=>a2 k RX hk)];exact h.2
theorem Uu (hS:∀ f,(Pe f).Ok P f) (hp:wG ops xs=true) (hg:xs.all (λx=>x.guard.isNone)=true) (hlen:xs.length=ops.size):∀ (fuel:Nat) (listed:Array Bool) (sl:List ak) (lh:List ar) (t:OT),gG ops listed->MP ops xs fuel listed=some t->qP w0 (zI Pe) t sl lh PR->BO w0 (zI Pe) ops xs PR fuel listed sl lh
 |0,listed,sl,lh,t,hc,ht,hv=>by
   simp only[MP]at ht;split at ht
   ·rename_i he;cases ht;exact⟨by simpa using he,hv⟩
   ·cases ht
 |fuel+1,listed,sl,lh,t,hc,ht,hv=>by
   have hP:=r6 hS;have one:∀ (x:jt) (j:Nat),xs[j]? = some x->∀ {PR:List ak->List ar->Prop},fH w0 (zI Pe) [x] sl lh PR->dK w0 (zI Pe) sl lh none (λv l=>PR (fl sl x.dst v) l) x.op:=λx j hx PR h=>by
    have Xx:x.guard=none:=by have:=List.all_eq_true.1 hg x (Is hx);simpa using this
    simp[fH,Xx]at h;exact h
   simp[MP]at ht;split at ht
   ·rename_i j hj
    split at ht
    ·rename_i x u hx hu
     cases ht;have Y2:=List.mem_of_find?_eq_some hj;have pr:O2 x.op=true:=by have:=List.find?_some hj;simpa[aox,hx] using this
     refine hyv hS hp hlen hx pr fuel listed sl lh hc Y2 ?_;exact dZ hP (λv l h=>Uu hS hp hg hlen fuel _ _ l u (fV hc Y2) hu h) (one x j hx hv)
    ·cases ht
   ·rename_i hnone
    refine⟨λhr=>?_,λi hi x hx=>?_⟩
    ·rw[hr]at ht;simp[G4,Ak]at ht;subst ht;exact hv
    ·let ⟨u,hu,su⟩:=zF ht hv i hi
     rw[hx]at hu;split at hu
     ·rename_i x' r e1 hr;cases e1;cases hu;exact dZ hP (λv l h=>Uu hS hp hg hlen fuel _ _ l r (fV hc hi) hr h) (one x i hx su)
     ·cases hu
end
section
variable {P:Program} {Pe:FuncId->ci} {AQ:List TypeId} {B:dN} {F:Fence} {n:Nat} {ops:Array Oper}
theorem ho2 (hF:lC F) (hS:∀ f,(Pe f).Ok P f) (hE:∀ t∈AQ,dL P t) {id:Nat} {t:OT} (hc:um P AQ ops=some t) {PR:List ak->List ar->Prop} {Pg:Exit->Act->World->Prop} {sl:List ak} {lh:List ar} {m:aN} {a:Act} {w:World}
 (hs:kq B m sl lh a w) (h:qP B.w0 (zI Pe) t sl lh PR) (hQ:∀sl' lh' m' a' w',kq B m' sl' lh' a' w'->jI lh m lh' m'->PR sl' lh'->Pg .normal a' w'):(Code.region id ops true).wpIn F n P Pg a w:=by
 unfold um at hc;split at hc
 ·cases hc
 ·rename_i xs SQ
  split at hc
  ·rename_i hcond
   simp only[Ae,E4]at hcond
   let ⟨M,Q,_,h4,h5⟩:=hcond
   refine wpIn_region_any M ?_;have RE:gG ops (Array.replicate ops.size false):=λk o hk=>by simp[Je]at hk;split at hk<;>simp at hk
   have hall:=Uu hS h4 Q h5 ops.size _ sl lh t RE hc h;exact sc hF (r6 hS) hE SQ Q hQ _ _ sl lh m a _ ⟨hs.1,hs.2.1,hs.2.2.drew _⟩ (jI.refl _ _) hall
  ·cases hc
end
end Go.Sx
