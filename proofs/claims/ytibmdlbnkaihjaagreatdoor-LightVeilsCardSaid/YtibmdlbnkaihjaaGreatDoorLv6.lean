/- Part 6 of a proof. No conditions. -/
import Derived.Test.YtibmdlbnkaihjaaGreatDoorLv5
set_option maxRecDepth 100000
set_option linter.unusedVariables false
set_option linter.unusedSimpArgs false
namespace Go.Dx
open Go.Sx
theorem aW.unhideG {B:cN} {m m':aD} {lh new:List ap} {w w':World} {X:List Nat} (h:aW B m lh w)
 (h':aW ⟨B.w0,w,fun b=>∃ k cs ty,k ∉ X/\lh[k]? = some (.cells cs ty)/\m k=some b,B.ds⟩ m' (hide X lh++new) w') (he:gJ (hide X lh) m (hide X lh++new) m') :
 aW B m' (lh++new) w'/\gJ lh m (lh++new) m':=by
 have hent:∀ k o,(lh++new)[k]? = some o->((hide X lh++new)[k]? = some o) ∨ (k ∈ X/\lh[k]? = some o/\(hide X lh++new)[k]? = some .hid):=fun k o hk=>by
  rw [List.getElem?_append] at hk
  split at hk
  ·rename_i hlt
   rw [List.getElem?_append_left (by rw [Go.Sx.hide_length]; exact hlt),Go.Sx.hide_get]
   by_cases hX:k ∈ X
   ·rw [if_pos hX,hk]; exact .inr ⟨hX,rfl,rfl⟩
   ·rw [if_neg hX]; exact .inl hk
  ·rename_i hge
   left
   rw [List.getElem?_append_right (by rw [Go.Sx.hide_length]; omega),Go.Sx.hide_length]; exact hk
 have hnoown:∀ k cs ty b,k ∈ X->lh[k]? = some (.cells cs ty)->m k=some b->¬ ∃ j cs ty,j ∉ X/\lh[j]? = some (ap.cells cs ty)/\m j=some b:=fun k cs ty b hX hk hb ⟨j,cs',ty',hj,hl,hb'⟩=>by
  exact hj (h.inj j k b cs' cs ty' ty hl hk hb' hb ▸ hX)
 refine ⟨⟨h'.os.trans h.os,h'.tape.trans h.tape,h'.output.trans h.output,h'.size,h'.old,Nat.le_trans h.fsize h'.fsize,fun b hb ho=>?_,fun k cs ty hk=>?_,fun k k' b cs cs' ty ty' h1 h2 hb hb'=>?_,fun k hk=>?_,fun k hk=>?_,h'.rng⟩,he.1,fun k hk=>?_⟩
 ·rw [h'.kept b (Nat.lt_of_lt_of_le hb h.fsize) (fun ⟨k,cs,ty,_,hl,hm⟩=>?_)]
  ·exact h.kept b hb ho
  ·obtain ⟨b',_,hb',_,_,_,h3⟩:=h.loc k cs ty hl
   rw [hm] at hb'; cases hb'
   rcases h3 with h3 | h3
   ·omega
   ·exact ho h3
 ·rcases hent k _ hk with hl | ⟨hX,hl,_⟩
  ·obtain ⟨b,vs,hb,hvs,hh,h1,h2⟩:=h'.loc k cs ty hl
   refine ⟨b,vs,hb,hvs,hh,h1,?_⟩
   rcases h2 with h2 | ⟨j,cs',ty',hj,hlj,hmj⟩
   ·exact .inl (Nat.le_trans h.fsize h2)
   ·obtain ⟨b',_,hb',_,_,_,h3⟩:=h.loc j cs' ty' hlj
    rw [hmj] at hb'; cases hb'
    exact h3
  ·obtain ⟨b,vs,hb,hvs,hh,h1,h2⟩:=h.loc k cs ty hl
   refine ⟨b,vs,he.1 _ _ hb,b6 he.1 _ _ hvs,?_,h1,h2⟩
   rw [h'.kept b (h.rng k b hb) (hnoown k cs ty b hX hl hb)]
   exact hh
 ·have mixed:∀ k k' b cs cs' ty ty',(hide X lh++new)[k]? = some (.cells cs ty)->k' ∈ X->lh[k']? = some (.cells cs' ty')->m' k=some b->m' k'=some b->False:=fun k k' b cs cs' ty ty' hl hX hl' hb hb'=>by
   obtain ⟨b0,_,hb0,_⟩:=h.loc k' cs' ty' hl'
   have e:=he.1 _ _ hb0
   rw [hb'] at e; cases e
   obtain ⟨b1,_,hb1,_,_,_,h2⟩:=h'.loc k cs ty hl
   rw [hb] at hb1; cases hb1
   rcases h2 with h2 | h2
   ·have h3:=h.rng k' b hb0
    have h4:w.heap.size<=b:=h2
    omega
   ·exact hnoown k' cs' ty' b hX hl' hb0 h2
  rcases hent k _ h1 with hl | ⟨hX,hl,_⟩ <;> rcases hent k' _ h2 with hl' | ⟨hX',hl',_⟩
  ·exact h'.inj k k' b cs cs' ty ty' hl hl' hb hb'
  ·exact (mixed k k' b cs cs' ty ty' hl hX' hl' hb hb').elim
  ·exact (mixed k' k b cs' cs ty' ty hl' hX hl hb' hb).elim
  ·obtain ⟨b0,_,hb0,_⟩:=h.loc k cs ty hl
   obtain ⟨b1,_,hb1,_⟩:=h.loc k' cs' ty' hl'
   have e:=he.1 _ _ hb0; rw [hb] at e; cases e
   have e:=he.1 _ _ hb1; rw [hb'] at e; cases e
   exact h.inj k k' b cs cs' ty ty' hl hl' hb0 hb1
 ·exact h'.dom k (by rw [List.length_append] at hk ⊢; rw [Go.Sx.hide_length]; exact hk)
 ·rcases hent k _ hk with hl | ⟨hX,hl,hl'⟩
  ·exact h'.dead k hl
  ·have hd:=h.dead k hl
   have hh:(hide X lh)[k]? = some .hid:=by rw [Go.Sx.hide_get,if_pos hX,hl]; rfl
   rw [(he.2 k hh).2]; exact hd
 ·have hh:(hide X lh)[k]? = some .hid:=by
   rw [Go.Sx.hide_get]; split
   ·rw [hk]; rfl
   ·exact hk
  obtain ⟨h1,h2⟩:=he.2 k hh
  exact ⟨by rw [List.getElem?_append_left (List.getElem?_eq_some_iff.1 hk).1]; exact hk,h2⟩
mutual
def dD:V->Prop
 | .int .. | .bool _ | .kb _ | .str _ | .any=>True
 | .agg cs | .tup cs=>fW cs
 | .sl n f=>∀ i,i < n->fW (f i)
 | _=>False
def fW:List V->Prop
 | []=>True
 | v::vs=>dD v/\fW vs
end
theorem QO:∀ (r v:V),dD r->cn v=cn r->v.fc=true->r.fc=true
 | .int ..,_,_,_,_=>rfl
 | .bool _,_,_,_,_=>rfl
 | .kb _,_,_,_,_=>rfl
 | .str _,_,_,_,_=>rfl
 | .any,_,_,_,_=>rfl
 | .sl ..,_,_,_,_=>rfl
 | .agg _,v,_,h,hf=>by cases v <;> first | (simp [cn] at h; done) | (cases hf; done)
 | .tup _,v,_,h,hf=>by cases v <;> first | (simp [cn] at h; done) | (cases hf; done)
 | .fn ..,_,hg,_,_=>by simp [dD] at hg
 | .pd ..,_,hg,_,_=>rfl
 | .pl ..,_,hg,_,_=>rfl
 | .pe ..,_,hg,_,_=>rfl
 | .ss ..,_,hg,_,_=>rfl
 | .gs ..,_,hg,_,_=>rfl
 | .ns,_,hg,_,_=>rfl
 | .np,_,hg,_,_=>rfl
 | .gd ..,_,hg,_,_=>by simp [dD] at hg
 | .yl ..,_,hg,_,_=>by simp [dD] at hg
 | .go ..,_,hg,_,_=>rfl
 | .sq ..,_,hg,_,_=>rfl
theorem yM:∀ (rs vs:List V),fW rs->b9 vs=b9 rs->vs.all V.fc=true->rs.all V.fc=true
 | [],_,_,_,_=>rfl
 | r::rs,[],_,h,_=>by simp [b9] at h
 | r::rs,v::vs,hg,h,hf=>by
   simp only [b9,List.cons.injEq] at h
   simp only [fW] at hg
   simp only [List.all_cons,Bool.and_eq_true] at hf ⊢
   exact ⟨QO r v hg.1 h.1 hf.1,yM rs vs hg.2 h.2 hf.2⟩
section
variable {w0:World} {lh:List ap}
mutual
theorem eqA:∀ (r v:V) (a:ak),dD r->cn v=cn r->vr w0 lh Nu.nil v a->vr w0 lh Nu.nil r a
 | .int k n,v,a,_,h,hv=>by cases v <;> simp only [cn] at h <;> cases h; exact hv
 | .bool b,v,a,_,h,hv=>by cases v <;> simp only [cn] at h <;> cases h <;> (simp only [vr] at hv ⊢; exact hv)
 | .kb b,v,a,_,h,hv=>by cases v <;> simp only [cn] at h <;> cases h <;> (simp only [vr] at hv ⊢; exact hv)
 | .str s,v,a,_,h,hv=>by cases v <;> simp only [cn] at h <;> cases h; exact hv
 | .any,v,a,_,_,_=>by simp only [vr]
 | .agg cs,v,a,hg,h,hv=>by
   cases v <;> simp only [cn,ak.agg.injEq] at h <;> first | (cases h; done) | skip
   simp only [dD] at hg
   simp only [vr] at hv ⊢
   obtain ⟨az,e,hv⟩:=hv
   exact ⟨az,e,Tb cs _ az hg h hv⟩
 | .tup cs,v,a,hg,h,hv=>by
   cases v <;> simp only [cn,ak.tup.injEq] at h <;> first | (cases h; done) | skip
   simp only [dD] at hg
   simp only [vr] at hv ⊢
   obtain ⟨az,e,hv⟩:=hv
   exact ⟨az,e,Tb cs _ az hg h hv⟩
 | .sl n f,v,a,hg,h,hv=>by
   cases v <;> first | (simp [cn] at h; done) | skip
   obtain ⟨rfl,hel⟩:=CX h
   simp only [dD] at hg
   simp only [vr] at hv ⊢
   obtain ⟨p,c,esz,h1,h2,h3,h4,h5⟩:=hv
   refine ⟨p,c,esz,h1,h2,h3,h4,fun i hi=>?_⟩
   obtain ⟨q,az,g1,g2,g3,g4⟩:=h5 i hi
   exact ⟨q,az,g1,g2,Tb (f i) _ az (hg i hi) (hel i hi) g3,yM _ _ (hg i hi) (hel i hi) g4⟩
 | .fn ..,_,_,hg,_,_=>by simp [dD] at hg
 | .pd ..,_,_,hg,_,_=>by simp [dD] at hg
 | .pl ..,_,_,hg,_,_=>by simp [dD] at hg
 | .pe ..,_,_,hg,_,_=>by simp [dD] at hg
 | .ss ..,_,_,hg,_,_=>by simp [dD] at hg
 | .gs ..,_,_,hg,_,_=>by simp [dD] at hg
 | .ns,_,_,hg,_,_=>by simp [dD] at hg
 | .np,_,_,hg,_,_=>by simp [dD] at hg
 | .gd ..,_,_,hg,_,_=>by simp [dD] at hg
 | .yl ..,_,_,hg,_,_=>by simp [dD] at hg
 | .go ..,_,_,hg,_,_=>by simp [dD] at hg
 | .sq ..,_,_,hg,_,_=>by simp [dD] at hg
theorem Tb:∀ (rs vs:List V) (az:List ak),fW rs->b9 vs=b9 rs->bf w0 lh Nu.nil vs az->bf w0 lh Nu.nil rs az
 | [],vs,az,_,h,hv=>by
   cases vs with
   | nil=>exact hv
   | cons v vs=>simp [b9] at h
 | r :: rs,vs,az,hg,h,hv=>by
   cases vs with
   | nil=>simp [b9] at h
   | cons v vs =>
     simp only [b9,List.cons.injEq] at h
     simp only [fW] at hg
     simp only [bf] at hv ⊢
     obtain ⟨x,xs,e,h1,h2⟩:=hv
     exact ⟨x,xs,e,eqA r v x hg.1 h.1 h1,Tb rs vs xs hg.2 h.2 h2⟩
end
end
def Hr:V->V
 | .sq n _ f=>.sl n f
 | v=>v
def sqs:V->V
 | .agg cs=>.agg (cs.map Hr)
 | .tup cs=>.tup (cs.map Hr)
 | v=>Hr v
theorem EU {w0:World} {lh:List ap} {ν:Nu} {v:V} {a:ak} (h:vr w0 lh ν v a):vr w0 lh ν (Hr v) a:=by
 unfold Hr
 split
 ·simp only [vr] at h ⊢
  obtain ⟨p,c,esz,h1,h2,h3,h4,h5⟩:=h
  exact ⟨p,c,esz,h1,h2.1,h3,h4,h5⟩
 ·exact h
theorem tX {w0:World} {lh:List ap} {ν:Nu}:∀ {vs:List V} {qs:List ak},bf w0 lh ν vs qs->bf w0 lh ν (vs.map Hr) qs
 | [],qs,h=>by simp only [bf,List.map_nil] at h ⊢; exact h
 | v::vs,qs,h=>by
   simp only [bf,List.map_cons] at h ⊢
   obtain ⟨x,xs,e,h1,h2⟩:=h
   exact ⟨x,xs,e,EU h1,tX h2⟩
theorem adj {w0:World} {lh:List ap} {ν:Nu} {v:V} {a:ak} (h:vr w0 lh ν v a):vr w0 lh ν (sqs v) a:=by
 unfold sqs
 split
 ·simp only [vr] at h ⊢
  obtain ⟨qs,e,h⟩:=h
  exact ⟨qs,e,tX h⟩
 ·simp only [vr] at h ⊢
  obtain ⟨qs,e,h⟩:=h
  exact ⟨qs,e,tX h⟩
 ·exact EU h
theorem HR.fz (w0:World) (l:List ap):HR w0 ⟨fun _=>Option.none,l⟩ 0 0 [] l:=⟨fun k o h=>by simp at h,fun k k' x x' _ _ h=>by (cases h),fun _ _=>rfl,fun _ _ h=>by (cases h),kq _,fun _ _ _ h=>by (cases h)⟩
theorem Mz {l l1:List ap} {m m1:aD} (hz:sS l l1) (he:gJ l m l1 m1) (hl:∀ (k:Nat) (o:ap),l[k]? = some o->o=.hid ∨ ∃ az ty,o=.cells az ty):l1=l++l1.drop l.length:=by
 have hp:∀ k o,l[k]? = some o->l1[k]? = some o:=fun k o hk=>by
  rcases hl k o hk with rfl | ⟨az,ty,rfl⟩
  ·exact (he.2 k hk).1
  ·exact hz k az ty hk
 apply List.ext_getElem?; intro k
 rw [List.getElem?_append]
 split
 ·rename_i hlt
  have:l[k]? = some l[k]:=List.getElem?_eq_getElem hlt
  rw [hp k _ this,this]
 ·rename_i hge
  rw [List.getElem?_drop]; congr 1; omega
theorem Z4 {α:Type} {P:Program} {eqs:List TypeId} {its:List gk} {ct:bd} {f:FuncId} {fn:Func} {sf:aI} {un:kn} {C:aB} {K0:V->List O->T α} {Q0:V->α->Prop} (hK0:∀ w0 r v h,bn (cO w0 (SV ct)) (K0 v h) (Q0 r)->QK (mh h [v])/\cn (sqs (nT h v))=cn r) (hT:aR P eqs its ct) (hE:∀ t ∈ eqs,cB P t) (hI:j6 P eqs its) (hf:P.funcs[f]? = some fn)
 (hn : (fn.name == "runtime.NumGoroutine") = false) (hc : dO P eqs its fn = some sf) (hd : eT sf.ntmps sf.body = true) (hg : ∀ ds d p r, C ds = some (d, p, r) -> d.1 = d.2 -> p -> dD r)
 (h:∀ w0 ds d p r,C ds=some (d,p,r)->d.1=d.2->p->bn (cO w0 (SV ct)) (lI (lz ct LV) (kT ct) un LV sf ds [] K0) (Q0 r)):(vZ C).Ok P f:=by
 refine ⟨fun B m lh w args vs K hrel hargs hsp=>?_,fun _ _ _ _ _ hk ⟨ds,d,p,r,X,h1,h2,h3,h4,h5,h6⟩=>⟨ds,d,p,r,X,h1,h2,h3,h4,h5,fun x new hx=>hk _ _ (h6 x new hx)⟩,fun _ _ _ _ ⟨_,_,_,_,_,_,_,_,_,⟨x,new,hx⟩,h6⟩=>h6 x new hx⟩
 obtain ⟨ds,d,p,r,X,h1,hX,h2,⟨h30,h3⟩,_,h6⟩:=hsp
 have hs:=mW (Sp:=fun w0 args l K=>∃ ds d p r,bf w0 l Nu.nil ds args/\C ds=some (d,p,r)/\(d.1=d.2/\p)/\∀ x l',sS l l'->vr w0 l' Nu.nil r x->K x l') (hT.ok hE hI LV) hE hI hf hn hc (fun w0 args l K hw ha ⟨ds,d,p,r,k1,k2,⟨k30,k3⟩,k4⟩=>by
  refine o8 (ν:=⟨fun _=>none,l⟩) (nV:=0) (nS:=0) (mS w0 ct hT.dst LV) (nd w0 ct _ LV) hd (fS (fun k x h=>by cases h) ds args k1) (HR.fz w0 l) (h w0 ds d p r k2 k30 k3) fun v h' ν' a lh' q0 q1 q2 q3=>?_
  obtain ⟨b1,b2⟩:=hK0 _ _ _ _ q3
  have hh:=q1 0 0
  have hv:bf w0 lh' Nu.nil [nT h' v] [a]:=ma hh b1 (by simp only [bf]; exact ⟨_,_,rfl,q2,rfl⟩)
  simp only [bf] at hv
  obtain ⟨x,xs,e,hv,_⟩:=hv
  cases e
  exact ⟨a,lh',.inl ⟨rfl,(⟨.inr rfl,trivial⟩:ku [_] [_])⟩,k4 a lh' (mV q0.2 hh.zl) (eqA _ _ _ (hg _ _ _ _ k2 k30 k3) b2 (adj hv))⟩)
 obtain ⟨e1,e2⟩:=hs _ m (hide X lh) w args vs (fun r' l'=>sS (hide X lh) l'/\vr B.w0 l' Nu.nil r r') (hrel.hide X) hargs ⟨ds,d,p,r,h1,h2,⟨h30,h3⟩,fun x l' hz hx=>⟨hz,hx⟩⟩
 refine ⟨e1,e2.mono fun ee w' ⟨v,r',m1,l1,he,hv,hext,hr,hz,hx⟩=>?_⟩
 have hfull:=Mz hz hext fun k o hk=>by
  rw [Go.Sx.hide_get] at hk
  split at hk
  ·cases hg:lh[k]? with
   | none=>rw [hg] at hk; cases hk
   | some o'=>rw [hg] at hk; cases hk; exact .inl rfl
  ·rename_i hkX
   rcases hX k hkX with hc | hc
   ·right
    rw [hk] at hc
    cases o with
    | cells az ty=>exact ⟨az,ty,rfl⟩
    | _=>cases hc
   ·rw [List.getElem?_eq_none hc] at hk; cases hk
 generalize l1.drop (hide X lh).length=new at hfull
 subst hfull
 obtain ⟨g1,g2⟩:=aW.unhideG hrel hr hext
 exact ⟨v,r',m1,lh++new,he,hv,g2,g1,h6 r' new hx⟩
theorem agI {P:Program} {f:FuncId} {e:Nat} {ty:TypeId} {C:aB} (h:(vL e ty C).Ok P f) (hL:∀ ds d p r,C ds=some (d,p,r)->d.1=d.2->p->HK e r/\∃ n f,r=.sl n f/\∀ i,i < n->(f i).all V.fc=true):(vN C).Ok P f:=by
 refine ⟨fun B m lh w args vs K hrel hargs ⟨ds,d,p,r,h1,h2,h3,h5,h6⟩=>?_,fun _ _ _ _ _ hk ⟨ds,d,p,r,h1,h2,h3,h4,h5⟩=>⟨ds,d,p,r,h1,h2,h3,h4,fun x new hx=>hk _ _ (h5 x new hx)⟩,fun w0 _ lh _ ⟨_,_,_,_,_,_,_,h4,h5⟩=>let ⟨x,new,hx⟩:=h4 w0 lh; h5 x new hx⟩
 obtain ⟨ho,n,f,rfl,hfc⟩:=hL _ _ _ _ h2 h3.1 h3.2
 have ho':=ho
 obtain ⟨n',f',hl,hmax,hel,_⟩:=ho'
 simp only [mw,Option.some.injEq,Prod.mk.injEq] at hl
 obtain ⟨rfl,rfl⟩:=hl
 refine h.sound B m lh w args vs K hrel hargs ⟨ds,d,p,_,n,f,h1,h2,h3,rfl,ho,fun x new hx=>?_⟩
 show K x (lh++new)
 refine h6 x new ?_
 simp only [vr]
 rcases hx with ⟨rfl,rfl⟩ | ⟨b,c,az,hb,hbl,rfl,hal,hnc,hall⟩
 ·exact ⟨none,0,e,rfl,Nat.le_refl _,hmax,trivial,fun i hi=>absurd hi (Nat.not_lt_zero _)⟩
 ·have hbl':(List.replicate lh.length ap.dead++new)[b]? = some (.cells az ty):=by
   rw [List.getElem?_append_right (by simpa using hb)]
   rw [List.getElem?_append_right hb] at hbl
   simpa using hbl
  refine ⟨some (.l b 0),c,e,rfl,hnc,hmax,⟨az,ty,hbl',Nat.zero_le _⟩,fun i hi=>⟨.l b 0,b9 (f i),rfl,?_,(dF (hel i hi).2 _).2 rfl,hfc i hi⟩⟩
  have hle:i * e+e<=az.length:=by rw [hal,← Nat.succ_mul]; exact Nat.mul_le_mul_right e (by omega)
  show lds B.w0 _ (.l b (0+i * e)) e=_
  rw [Nat.zero_add]
  simp only [lds,hbl']
  rw [if_pos hle,hall i hi]
theorem Ju {e n:Nat} {f:Nat->List V} (ho:HK e (.sl n f)) (hfc:∀ i,i < n->(f i).all V.fc=true):okN (.sl n f):=fun w0 lh=>by
 obtain ⟨n',f',hl,hmax,hel,_⟩:=ho
 simp only [mw,Option.some.injEq,Prod.mk.injEq] at hl
 obtain ⟨rfl,rfl⟩:=hl
 obtain ⟨h1,h2⟩:=w9 (e:=e) (f:=f) (n:=n) fun i hi=>by rw [tK]; exact (kX (hel i hi).1).1
 refine ⟨.slice (some (.l lh.length 0)) n n,[.cells ((List.range n).flatMap fun i=>b9 (f i)) 0],?_⟩
 simp only [vr]
 have hbl':(List.replicate lh.length ap.dead++[ap.cells ((List.range n).flatMap fun i=>b9 (f i)) 0])[lh.length]? = some (.cells ((List.range n).flatMap fun i=>b9 (f i)) 0):=by
  rw [List.getElem?_append_right (by simp)]; simp
 refine ⟨some (.l lh.length 0),n,e,rfl,Nat.le_refl _,hmax,⟨_,0,hbl',Nat.zero_le _⟩,fun i hi=>⟨.l lh.length 0,b9 (f i),rfl,?_,(dF (hel i hi).2 _).2 rfl,hfc i hi⟩⟩
 have hle:i * e+e<=n * e:=by rw [← Nat.succ_mul]; exact Nat.mul_le_mul_right e (by omega)
 show lds w0 _ (.l lh.length (0+i * e)) e=_
 rw [Nat.zero_add]
 simp only [lds,hbl']
 rw [if_pos (by rw [h1]; exact hle),h2 i hi]
theorem amj {P:Program} {f:FuncId} {e:Nat} {ty:TypeId} {C:aB} (h:(vL e ty C).Ok P f) (hL:∀ ds d p r,C ds=some (d,p,r)->d.1=d.2->p->HK e r/\∃ n f,r=.sl n f/\∀ i,i < n->(f i).all V.fc=true):(vN C).Ok P f/\∀ ds d p r,C ds=some (d,p,r)->d.1=d.2->p->okN r :=
 ⟨agI h hL,fun ds d p r h1 h2 h3=>by obtain ⟨ho,n,f,rfl,hfc⟩:=hL ds d p r h1 h2 h3; exact Ju ho hfc⟩
end Go.Dx
namespace Go.Dx
open Go.Sx
section
variable {J:Type}
def RS (J:Type) (ct:bd) (un:kn) (sf:aI) (ds:List V):T (bN J):=lI (lz ct LV) (kT ct) un LV sf ds [] fun v h=>YE (mh h [v]) (.ret (.res (sqs (nT h v))))
theorem TU {P:Program} {eqs:List TypeId} {its:List gk} {ct:bd} {f:FuncId} {fn:Func} {sf:aI} {un:kn} {ts:List Ty} {pre:List V->Prop} {r:List V->V} (hT:aR P eqs its ct) (hE:∀ t ∈ eqs,cB P t) (hI:j6 P eqs its) (hf:P.funcs[f]? = some fn)
 (hn : (fn.name == "runtime.NumGoroutine") = false) (hc : dO P eqs its fn = some sf) (hd : eT sf.ntmps sf.body = true) (ho : fl ts = true) (hg : ∀ ds, pre (ao ts ds) -> dD (r (ao ts ds)))
 (h:∀ w0 ds,pre (ao ts ds)->bn (cO w0 (SV ct)) (RS J ct un sf (ao ts ds)) (oX (r (ao ts ds)))):(vZ (bI ts pre r)).Ok P f:=by
 refine ⟨fun B m lh w args vs K hrel hargs hsp=>?_,fun _ _ _ _ _ hk ⟨ds,d,p,r,X,h1,h2,h3,h4,h5,h6⟩=>⟨ds,d,p,r,X,h1,h2,h3,h4,h5,fun x new hx=>hk _ _ (h6 x new hx)⟩,fun _ _ _ _ ⟨_,_,_,_,_,_,_,_,_,⟨x,new,hx⟩,h6⟩=>h6 x new hx⟩
 obtain ⟨ds,d,p,r',X,h1,hX,h2,⟨h30,h3⟩,h5,h6⟩:=hsp
 simp only [bI,Option.some.injEq,Prod.mk.injEq] at h2
 obtain ⟨rfl,rfl,rfl⟩:=h2
 have hty:=(iz ts ds [] [] ho h30).1
 rw [(fE ts ds [] [] h30).1] at h3 h5 h6
 have key2:=Z4 (C:=fun ds'=>some ((ds',ao ts ds),pre (ao ts ds),r (ao ts ds))) (P:=P) (f:=f) (un:=un) (K0:=fun v h=>YE (mh h [v]) (T.ret (bN.res (J:=J) (sqs (nT h v))))) (Q0:=oX (J:=J)) (fun w0 r v h hs=>⟨(qV hs).1,by have h2:=(qV hs).2; simp only [bn,oX] at h2; exact h2⟩) hT hE hI hf hn hc hd (fun ds' d' p' r' e he hp=>by
  simp only [Option.some.injEq,Prod.mk.injEq] at e
  obtain ⟨rfl,rfl,rfl⟩:=e
  exact hg ds hp) (fun w0 ds' d' p' r' e he hp=>by
  simp only [Option.some.injEq,Prod.mk.injEq] at e
  obtain ⟨rfl,rfl,rfl⟩:=e
  simp only at he
  subst he
  exact h w0 ds hp)
 exact key2.sound B m lh w args vs K hrel hargs ⟨ao ts ds,_,_,_,X,eF ts ds args hty h1,hX,rfl,⟨rfl,h3⟩,h5,h6⟩
theorem D5 {ts:List Ty} {pre:List V->Prop} {r:List V->V} (hL:∀ ds,bl ts ds->pre (ao ts ds)->∀ w0 lh args,bf w0 lh Nu.nil (ao ts ds) args->∃ x new,vr w0 (lh++new) Nu.nil (r (ao ts ds)) x) (ho:fl ts=true):∀ ds d p r',bI ts pre r ds=some (d,p,r')->d.1=d.2->p->∀ w0 lh args,bf w0 lh Nu.nil ds args->∃ x new,vr w0 (lh++new) Nu.nil r' x:=by
 intro ds d p r' h h1 h2 w0 lh args ha
 simp only [bI,Option.some.injEq,Prod.mk.injEq] at h
 obtain ⟨rfl,rfl,rfl⟩:=h
 have hty:=(iz ts ds [] [] ho h1).1
 rw [(fE ts ds [] [] h1).1] at h2 ⊢
 exact hL ds hty h2 w0 lh args (eF ts ds args hty ha)
end
theorem Cq {w0:World} {lh:List ap} {e n:Nat} {f:Nat->List V} (hn:n<=9223372036854775807) (hel:∀ i,i < n->kS e (f i)=true/\(b9 (f i)).all bh=true/\(f i).all V.fc=true):∃ x new,vr w0 (lh++new) Nu.nil (.sl n f) x:=by
 obtain ⟨x,new,hx⟩:=Ju (e:=e) (n:=n) (f:=f) ⟨n,f,rfl,hn,fun i hi=>⟨(hel i hi).1,(hel i hi).2.1⟩,by simp [BN,b9]⟩ (fun i hi=>(hel i hi).2.2) w0 lh
 refine ⟨x,new,kA (fun k az ty hk=>?_) _ x hx⟩
 rw [List.getElem?_append] at hk
 split at hk
 ·rename_i hlt
  simp at hlt
  simp [hlt] at hk
 ·rename_i hge
  simp at hge
  rw [List.getElem?_append_right hge]
  simpa using hk
end Go.Dx
namespace Go.Dx
open Go.IntKind (i64 u64 u8)
open Go.Sx Go.Proofs
noncomputable section
def xW:bd:=(111,.con K7)::(226,.con C3)::(225,.con Km)::(165,.con FG)::oF
theorem Ff:aR Tryz.prog eqs its xW:=.con It (.con BU (.con CV (.con Cr (mM))))
inductive rS where
 | L0 (ia0:Int) (na1:Nat) (fa2:Nat->List V)
def Vq (n0:Nat) (f0:ah) (x2:Int):rS->bp × List O × Option Ex
 | .L0 ia0 na1 fa2=>([(9,vi ia0),(8,vi (↑n0:Int)),(7,V.sl n0 (aa ae f0)),(4,V.gs 0 na1),(1,V.pd [vi x2])],[O.gl 1 na1 (aa ae fa2) 3],none)
def adf:rS->JJ
 | .L0 ia0 na1 fa2=>(0,[])
section
variable (n0:Nat) (f0:ah) (x2:Int)
include n0 f0 x2
def yaQ:T (bN JJ):=Pf JJ 1 3 xW u0 aj7 [V.sl n0 (aa ae f0),V.pd [vi x2]]
def zq (cx:List Cx):Lp JJ:=fb (eL (yaQ n0 f0 x2) [])
def aev:JJ->Lp JJ
 | (0,cx)=>zq n0 f0 x2 cx
 | (_,cx)=>zq n0 f0 x2 cx
def ahE:LD JJ rS:=⟨adf,aev n0 f0 x2,Vq n0 f0 x2⟩
def yx:rS->RT rS
 | .L0 ia0 na1 fa2=>.br (decide (ia0 < (↑n0:Int))) (.ob (decide (0<=ia0/\ia0 < (↑n0:Int))) (.obt (.ob (decide (na1<=na1/\(na1+1) * 8<=140737488355328) && !Nat.beq 8 0) (.next [some (some 2)] (rS.L0 (i64.wrap (ia0+1)) (na1+1) (bA na1 (aa ae fa2) fun x=>[vi (i64.wrap (ay (f0 ia0.toNat) * x2))])) [⟨0,ae,na1+1,bA na1 (aa ae fa2) fun x=>[vi (i64.wrap (ay (f0 ia0.toNat) * x2))],FE (eu rfl _ _) (yX rfl _ rfl)⟩])))) (.ob (decide (na1<=na1)) (.ret (V.sl na1 (aa ae fa2))))
end
def IT (n0:Nat) (f0:ah) (x2:Int):RT rS:=.asm (true=true->n0<=9223372036854775807) (.enter [some none] (rS.L0 (0) (0) (fun i=>[])) [])
theorem Uy (n0:Nat) (f0:ah) (x2:Int):dR xW u0 (ahE n0 f0 x2) (yaQ n0 f0 x2) (IT n0 f0 x2) (yx n0 f0 x2):=⟨⟨by kernel_rfl,by kernel_rfl⟩,fun s=>by cases s <;> exact ⟨by kernel_rfl,by kernel_rfl⟩⟩
def cH (f0:ah) (h:Int):Nat->List V:=fun i=>[V.int .i64 (i64.wrap (ay (f0 i) * h))]
theorem xM {n:Nat} {f g:Nat->List V} (h:∀ i,i < n->b9 (f i)=b9 (g i)):cn (.sl n f)=cn (.sl n g):=by
 simp only [cn]
 congr 1
 exact List.map_congr_left fun i hi=>by rw [h i (List.mem_range.1 hi)]
theorem VI {ts:List Ty} {pre:List V->Prop} {r:List V->V} {Q:V->Prop} (hL:∀ ds,pre (ao ts ds)->Q (r (ao ts ds))):∀ ds d p r',bI ts pre r ds=some (d,p,r')->d.1=d.2->p->Q r':=by
 intro ds d p r' h h1 h2
 simp only [bI,Option.some.injEq,Prod.mk.injEq] at h
 obtain ⟨rfl,rfl,rfl⟩:=h
 rw [(fE ts ds [] [] h1).1] at h2 ⊢
 exact hL ds h2
theorem Ew {a b:Nat} (h:a < b):Nat.blt a b=true:=Nat.ble_eq_true_of_le h
theorem Mu {a b:Nat} (h:b<=a):Nat.blt a b=false:=by
 cases hb:Nat.blt a b with
 | false=>rfl
 | true=>have:=Nat.le_of_ble_eq_true hb; omega
section
variable (n0:Nat) (f0:ah) (x2:Int)
include n0 f0 x2
theorem agj (h24:n0<=1000):∀ k,k<=n0->∀ f:Nat->List V,(∀ j,j < k->ao ae (f j)=cH f0 x2 j)->Ev (yx n0 f0 x2) (.L0 (k:Int) k f) (.sl n0 (aa ae (cH f0 x2))):=by
 refine dH fun k hk ih f hf=>?_
 refine Ev.of rfl ?_
 by_cases hlt:k < n0
 ·have hk1:i64.wrap ((k:Int)+1)=((k+1:Nat):Int):=by rw [wrapI (by omega) (by omega)]; omega
  refine fA (dqt (by omega)) (aM (dqt (by omega)) (af (aM ?_ (aQ ?_))))
  ·simp only [Bool.and_eq_true]; exact ⟨dqt ⟨Nat.le_refl _,by omega⟩,rfl⟩
  ·rw [hk1,Int.toNat_natCast]
   refine ih hlt _ fun j hj=>?_
   unfold bA
   by_cases hjk:j < k
   ·rw [Ew hjk]; show ao _ (ao _ (f j))=_; rw [dI]; exact hf j hjk
   ·have:j=k:=by omega
    subst this
    rw [Mu (Nat.le_refl _)]; rfl
 ·have e:k=n0:=by omega
  subst e
  refine ft (jx (by omega)) (aM (dqt (Nat.le_refl _)) (evRet ?_))
  exact xM fun i hi=>by show b9 (ao _ (f i))=b9 (ao _ (cH f0 x2 i)); rw [hf i hi]; rfl
theorem KS (hp:n0<=1000):aN (Ev (yx n0 f0 x2)) (IT n0 f0 x2) (.sl n0 (aa ae (cH f0 x2))):=bk fun _=>aH (agj n0 f0 x2 hp 0 (Nat.zero_le _) _ fun j hj=>absurd hj (Nat.not_lt_zero _))
theorem acV (hp:n0<=1000):aN (Ev (yx n0 f0 x2)) (IT n0 f0 x2) (.sl n0 (aa ae (cH (aa ae f0) x2))):=KS n0 f0 x2 hp
end
def Ue:List Ty:=[.sl ae,.pd ae]
def aiQ:List V->Prop
 | [.sl n0 _,.pd [.int _ _]]=>n0<=1000
 | _=>False
def agn:List V->V
 | [.sl n0 f0,.pd [.int _ x2]]=>.sl n0 (aa ae (cH f0 x2))
 | _=>.any
def wx:aB:=bI Ue aiQ agn
theorem to (f:Nat->List V) (h:Int) (i:Nat):kS 1 (aa ae (cH f h) i)=true/\(b9 (aa ae (cH f h) i)).all bh=true/\(aa ae (cH f h) i).all V.fc=true:=by
 refine ⟨rfl,?_,rfl⟩
 show (b9 [vi _]).all bh=true
 simp only [b9,cn,List.all_cons,bh,List.all_nil,Bool.and_self]
theorem DX:∀ ds d p r,wx ds=some (d,p,r)->d.1=d.2->p->HK 1 r/\∃ n f,r=.sl n f/\∀ i,i < n->(f i).all V.fc=true:=VI (Q:=fun r=>HK 1 r/\∃ n f,r=.sl n f/\∀ i,i < n->(f i).all V.fc=true) fun ds hp=>by
 have hp:au (hdV ds)<=1000:=hp
 exact ⟨⟨_,_,rfl,(by omega:au (hdV ds)<=9223372036854775807),fun i hi=>⟨(to _ _ i).1,(to _ _ i).2.1⟩,(by simp only [b9,List.all_nil]:(b9 []).all bh=true)⟩,_,_,rfl,fun i hi=>(to _ _ i).2.2⟩
theorem Gz:(vL 1 3 wx).Ok Tryz.prog 166:=anx Ff Tryz.func166 (by kernel_rfl) fun ds hp=>jE (Uy ..) (acV _ _ _ hp)
theorem IL:(vN wx).Ok Tryz.prog 166:=agI Gz DX
theorem yaA:∀ ds d p r,wx ds=some (d,p,r)->d.1=d.2->p->okN r:=(amj Gz DX).2
def CZ:bd:=(166,.conN wx yaA)::xW
theorem FI:aR Tryz.prog eqs its CZ:=.conN IL (Ff)
section
variable (s0:ByteArray) (n1:Nat) (f1:ah) (n3:Nat) (f3:ah) (n5:Nat) (f5:ah) (x7 x8 x9:Int)
include s0 n1 f1 n3 f3 n5 f5 x7 x8 x9
def XY:RT Empty:=.obp (n1<=(1000:Nat)) (.obp (n3<=(1000:Nat)) (.ret (V.agg [V.str s0,V.sl n1 (aa ae f1),V.sl n3 (aa ae f3),V.sl n5 (aa [Ty.sl ae] f5),vi x7,vi x8,V.sl n1 (aa ae (cH (aa ae f1) x9)),V.sl n3 (aa ae (cH (aa ae f3) x9)),vi x9])))
theorem UI:dh dm (RS JJ CZ u0 ajy [V.agg [V.str s0,V.sl n1 (aa ae f1),V.sl n3 (aa ae f3),V.sl n5 (aa [Ty.sl ae] f5),vi x7,vi x8],vi x9]) (XY s0 n1 f1 n3 f3 n5 f5 x7 x8 x9):=⟨by kernel_rfl,by kernel_rfl⟩
end
theorem ahd {ct:bd} {f:FuncId} {fn:Func} {sf:aI} {un:kn} {ts:List Ty} {pre:List V->Prop} {r:List V->V} (hT:aR Tryz.prog eqs its ct) (hf:Tryz.prog.funcs[f]? = some fn) (hk:fnQ fn sf ts=(false,some sf,true,true)) (hg:∀ ds,pre (ao ts ds)->dD (r (ao ts ds))) (h:∀ ds,pre (ao ts ds)->Run ct (RS JJ ct un sf (ao ts ds)) (r (ao ts ds))):(vZ (bI ts pre r)).Ok Tryz.prog f :=
 TU (J:=JJ) (un:=un) hT hE hI hf (ec hk).1 (ec hk).2.1 (ec hk).2.2.1 (ec hk).2.2.2 hg fun w0 ds hp=>h ds hp hT.dst w0
def xy:List Ty:=[.agg al,tI]
def WC:List V->Prop
 | [.agg [.str _,.sl n1 _,.sl n3 _,.sl _ _,.int _ _,.int _ _],.int _ _]=>n1<=1000/\n3<=1000
 | _=>False
def Ml:List V->V
 | [.agg [.str s0,.sl n1 f1,.sl n3 f3,.sl n5 f5,.int k7 x7,.int k8 x8],.int _ x9]=>.agg [.str s0,.sl n1 f1,.sl n3 f3,.sl n5 f5,.int k7 x7,.int k8 x8,.sl n1 (aa ae (cH f1 x9)),.sl n3 (aa ae (cH f3 x9)),.int .i64 x9]
 | _=>.any
def Dd:aB:=bI xy WC Ml
theorem aeq (s0:ByteArray) (n1:Nat) (f1:ah) (n3:Nat) (f3:ah) (n5:Nat) (f5:ah) (x7 x8 x9:Int) (hp:n1<=1000/\n3<=1000):aN cr (XY s0 n1 f1 n3 f3 n5 f5 x7 x8 x9) (.agg [V.str s0,V.sl n1 (aa ae f1),V.sl n3 (aa ae f3),V.sl n5 (aa [Ty.sl ae] f5),vi x7,vi x8,V.sl n1 (aa ae (cH (aa ae f1) x9)),V.sl n3 (aa ae (cH (aa ae f3) x9)),vi x9]):=aC hp.1 (aC hp.2 (evRet rfl))
theorem kJ (vs:List V):fW (ao ae vs):=by
 show fW [V.int _ _]
 simp only [fW,dD,and_self]
theorem G3 (vs:List V):fW (ao [Ty.sl ae] vs):=by
 show fW [V.sl (au (hdV vs)) (aa ae (bj (hdV vs)))]
 simp only [fW,dD,and_true]
 exact fun i hi=>kJ _
theorem J1 (ds:List V):dD (Ml (ao xy ds)):=by
 show dD (.agg [V.str _,V.sl _ (aa ae _),V.sl _ (aa ae _),V.sl _ (aa [Ty.sl ae] _),V.int _ _,V.int _ _,V.sl _ (aa ae _),V.sl _ (aa ae _),V.int _ _])
 simp only [dD,fW,true_and,and_true]
 exact ⟨fun i hi=>kJ _,fun i hi=>kJ _,fun i hi=>G3 _,fun i hi=>kJ _,fun i hi=>kJ _⟩
theorem yq:∀ ds d p r,Dd ds=some (d,p,r)->d.1=d.2->p->∀ w0 lh args,bf w0 lh Nu.nil ds args->∃ x new,vr w0 (lh++new) Nu.nil r x:=D5 (fun ds hty hp w0 lh args ha=>by
 have hp:au (hdV (ab (dA (hdV ds))))<=1000/\au (hdV (ab (ab (dA (hdV ds)))))<=1000:=hp
 change bf w0 lh Nu.nil [V.agg [V.str _,V.sl _ _,V.sl _ _,V.sl _ _,V.int _ _,V.int _ _],V.int _ _] args at ha
 simp only [bf] at ha
 obtain ⟨a,as1,rfl,h1,b,bs,rfl,h2,rfl⟩:=ha
 rw [vr.eq_5] at h1
 obtain ⟨cs,rfl,h1⟩:=h1
 simp only [bf] at h1
 obtain ⟨c0,_,rfl,g0,c1,_,rfl,g1,c2,_,rfl,g2,c3,_,rfl,g3,c4,_,rfl,g4,c5,_,rfl,g5,rfl⟩:=h1
 obtain ⟨x6,new6,g6⟩:=Cq (w0:=w0) (lh:=lh) (e:=1) (n:=au (hdV (ab (dA (hdV ds))))) (f:=aa ae (cH (aa ae (bj (hdV (ab (dA (hdV ds)))))) (ba ds))) (by omega) fun i hi=>to _ _ i
 obtain ⟨x7,new7,g7⟩:=Cq (w0:=w0) (lh:=lh++new6) (e:=1) (n:=au (hdV (ab (ab (dA (hdV ds)))))) (f:=aa ae (cH (aa ae (bj (hdV (ab (ab (dA (hdV ds))))))) (ba ds))) (by omega) fun i hi=>to _ _ i
 have z:∀ (l t:List ap),sS l (l++t):=fun l t k as1 ty hk=>by rw [List.getElem?_append_left (List.getElem?_eq_some_iff.1 hk).1]; exact hk
 have up:∀ v a,vr w0 lh Nu.nil v a->vr w0 (lh++(new6++new7)) Nu.nil v a:=fun v a h=>kA (z _ _) v a h
 refine ⟨.agg [c0,c1,c2,c3,c4,c5,x6,x7,.int .i64 (ba ds)],new6++new7,?_⟩
 show vr w0 _ Nu.nil (.agg [V.str _,V.sl _ _,V.sl _ _,V.sl _ _,V.int _ _,V.int _ _,V.sl _ _,V.sl _ _,V.int _ _]) _
 rw [vr.eq_5]
 simp only [bf]
 refine ⟨_,rfl,_,_,rfl,up _ _ g0,_,_,rfl,up _ _ g1,_,_,rfl,up _ _ g2,_,_,rfl,up _ _ g3,_,_,rfl,up _ _ g4,_,_,rfl,up _ _ g5,_,_,rfl,?_,_,_,rfl,?_,_,_,rfl,?_,rfl⟩
 ·rw [← List.append_assoc]; exact kA (z _ _) _ _ g6
 ·rw [← List.append_assoc]; exact g7
 ·simp only [vr]) rfl
theorem Cz:(vZ Dd).Ok Tryz.prog 89:=ahd FI Tryz.func89 (by kernel_rfl) (fun ds _=>J1 ds) fun ds hp=>dG (UI ..) (aeq _ _ _ _ _ _ _ _ _ _ hp)
def nD:bd:=(309,.inl acu u0)::(89,.conZ Dd yq)::CZ
theorem ln:aR Tryz.prog eqs its nD:=fU Tryz.func309 (by kernel_rfl) (.conZ Cz (FI))
def XF (x0 x1:Int):RT Empty:=.br (x0 != x0) (.ob (x0 != x0) (.obi (.obi (.obi (.ret (V.bool (bif !x1 != x1 then true else decide (x0 < x1)))))))) (.ret (V.bool (decide (x0 < x1))))
theorem Rr (x0 x1:Int):dh dm (aS JJ nD u0 Xr [vi x0,vi x1]) (XF x0 x1):=⟨by kernel_rfl,by kernel_rfl⟩
def mO (x0 x1:Int):Bool:=bif x0 != x0 then bif !x1 != x1 then true else decide (x0 < x1) else decide (x0 < x1)
def Ds (x0 x1:Int):V:=.bool (mO x0 x1)
theorem ZZ (x0 x1:Int):aN cr (XF x0 x1) (Ds x0 x1):=evBr (fun h0=>aM (by first | assumption | (fail)) (evObi (evObi (evObi (evRet (by unfold Ds mO; try rw [h0]; rfl)))))) (fun h0=>evRet (by unfold Ds mO; try rw [h0]; rfl))
def Ya:aB:=bI b4 (fun _=>True) fun
 | [.int _ x0,.int _ x1]=>Ds x0 x1
 | _=>.any
theorem abk:(vP Ya).Ok Tryz.prog 283:=bY ln Tryz.func283 (by kernel_rfl) fun ds hp=>dG (Rr ..) (ZZ _ _)
def XL (x0:Int):RT Empty:=.ret (V.bool (x0 != x0))
theorem VN (x0:Int):dh dm (aS JJ nD u0 Zi [vi x0]) (XL x0):=⟨by kernel_rfl,by kernel_rfl⟩
def kZ (x0:Int):Bool:=x0 != x0
def PW (x0:Int):V:=.bool (kZ x0)
theorem adt (x0:Int):aN cr (XL x0) (PW x0):=evRet (by unfold PW kZ; rfl)
def Xl:aB:=bI ae (fun _=>True) fun
 | [.int _ x0]=>PW x0
 | _=>.any
theorem aaH:(vP Xl).Ok Tryz.prog 284:=bY ln Tryz.func284 (by kernel_rfl) fun ds hp=>dG (VN ..) (adt _)
section
variable (x0 x1 x2:Int)
include x0 x1 x2
def Zp:RT Empty:=.obc (.obt (.obi (.br (!!ar x0 0 200000) (.ob (!!ar x0 0 200000) (.obc (.obt (.obi (.br (!!ar x1 0 600) (.ob (!!ar x1 0 600) (.obc (.obt (.ret (V.bool !ar x2 0 1000))))) (.ret (V.kb true))))))) (.ret (V.kb true)))))
theorem Rq:dh dm (aS JJ nD u0 WU [V.agg [vi x0,vi x1,vi x2]]) (Zp x0 x1 x2):=⟨by kernel_rfl,by kernel_rfl⟩
def gx:Bool:=bif !!ar x0 0 200000 then bif !!ar x1 0 600 then !ar x2 0 1000 else true else true
def AQ:V:=.bool (gx x0 x1 x2)
theorem adU:aN cr (Zp x0 x1 x2) (AQ x0 x1 x2):=av (af (evObi (evBr (fun h0=>aM (by first | assumption | (fail)) (av (af (evObi (evBr (fun h1=>aM (by first | assumption | (fail)) (av (af (evRet (by unfold AQ gx; try rw [h0]; try rw [h1]; rfl))))) (fun h1=>evRet (by unfold AQ gx; try rw [h0]; try rw [h1]; rfl))))))) (fun h0=>evRet (by unfold AQ gx; try rw [h0]; rfl)))))
end
def W4:aB:=bI [.agg bG] (fun _=>True) fun
 | [.agg [.int _ x0,.int _ x1,.int _ x2]]=>AQ x0 x1 x2
 | _=>.any
theorem adF:(vP W4).Ok Tryz.prog 86:=bY ln Tryz.func86 (by kernel_rfl) fun ds hp=>dG (Rq ..) (adU _ _ _)
section
variable (x0 x1 x2:Int)
include x0 x1 x2
def Ww:RT Empty:=.obc (.obt (.obi (.br (!!aA x0 0 200000) (.ob (!!aA x0 0 200000) (.obc (.obt (.obi (.br (!!aA x1 0 600) (.ob (!!aA x1 0 600) (.obc (.obt (.br (!aA x2 0 1000) (.ret (vi 7)) (.ret (vi 0)))))) (.ret (vi 7))))))) (.ret (vi 7)))))
theorem QS:dh dm (aS JJ nD u0 ag6 [V.agg [vi x0,vi x1,vi x2]]) (Ww x0 x1 x2):=⟨by kernel_rfl,by kernel_rfl⟩
def eQ:Int:=bif !!aA x0 0 200000 then bif !!aA x1 0 600 then bif !aA x2 0 1000 then 7 else 0 else 7 else 7
def vt:V:=.int i64 (eQ x0 x1 x2)
theorem aco:aN cr (Ww x0 x1 x2) (vt x0 x1 x2):=av (af (evObi (evBr (fun h0=>aM (by first | assumption | (fail)) (av (af (evObi (evBr (fun h1=>aM (by first | assumption | (fail)) (av (af (evBr (fun h2=>evRet (by unfold vt eQ; try rw [h0]; try rw [h1]; try rw [h2]; rfl)) (fun h2=>evRet (by unfold vt eQ; try rw [h0]; try rw [h1]; try rw [h2]; rfl)))))) (fun h1=>evRet (by unfold vt eQ; try rw [h0]; try rw [h1]; rfl))))))) (fun h0=>evRet (by unfold vt eQ; try rw [h0]; rfl)))))
end
def ZA:aB:=bI [.agg bG] (fun _=>True) fun
 | [.agg [.int _ x0,.int _ x1,.int _ x2]]=>vt x0 x1 x2
 | _=>.any
theorem adu:(vP ZA).Ok Tryz.prog 178:=bY ln Tryz.func178 (by kernel_rfl) fun ds hp=>dG (QS ..) (aco _ _ _)
def Wv (x0:Int):RT Empty:=.obc (.obt (.ret (V.bool (aA x0 (-200000) 200000))))
theorem QT (x0:Int):dh dm (aS JJ nD u0 afH [vi x0]) (Wv x0):=⟨by kernel_rfl,by kernel_rfl⟩
def cY (x0:Int):Bool:=aA x0 (-200000) 200000
def Qb (x0:Int):V:=.bool (cY x0)
theorem ZX (x0:Int):aN cr (Wv x0) (Qb x0):=av (af (evRet (by unfold Qb cY; rfl)))
def WL:aB:=bI ae (fun _=>True) fun
 | [.int _ x0]=>Qb x0
 | _=>.any
theorem aa5:(vP WL).Ok Tryz.prog 258:=bY ln Tryz.func258 (by kernel_rfl) fun ds hp=>dG (QT ..) (ZX _)
def Zy (x0 x1 x2 x3 x4 x5:Int):RT Empty:=.ret (V.tup [vi (i64.wrap (i64.wrap (x0 * i64.wrap (i64.wrap (x3 * x5) - x4))+i64.wrap (x1 * i64.wrap (x4 - i64.wrap (x2 * x5))))),vi (i64.wrap (i64.wrap (x3 - x2) * x5))])
theorem V7 (x0 x1 x2 x3 x4 x5:Int):dh dm (aS JJ nD u0 akm [vi x0,vi x1,vi x2,vi x3,vi x4,vi x5]) (Zy x0 x1 x2 x3 x4 x5):=⟨by kernel_rfl,by kernel_rfl⟩
def c9 (x0 x1 x2 x3 x4 x5:Int):Int:=i64.wrap (i64.wrap (x0 * i64.wrap (i64.wrap (x3 * x5) - x4))+i64.wrap (x1 * i64.wrap (x4 - i64.wrap (x2 * x5))))
def bV (x2 x3 x5:Int):Int:=i64.wrap (i64.wrap (x3 - x2) * x5)
def Ly (x0 x1 x2 x3 x4 x5:Int):V:=.tup [.int i64 (c9 x0 x1 x2 x3 x4 x5),.int i64 (bV x2 x3 x5)]
theorem aeg (x0 x1 x2 x3 x4 x5:Int):aN cr (Zy x0 x1 x2 x3 x4 x5) (Ly x0 x1 x2 x3 x4 x5):=evRet (by unfold Ly c9 bV; rfl)
def Wo:aB:=bI [tI,tI,tI,tI,tI,tI] (fun _=>True) fun
 | [.int _ x0,.int _ x1,.int _ x2,.int _ x3,.int _ x4,.int _ x5]=>Ly x0 x1 x2 x3 x4 x5
 | _=>.any
theorem abq:(vP Wo).Ok Tryz.prog 286:=bY ln Tryz.func286 (by kernel_rfl) fun ds hp=>dG (V7 ..) (aeg _ _ _ _ _ _)
section
variable (x0 x1 x2 x3 x4:Int)
include x0 x1 x2 x3 x4
def Y2:RT Empty:=.obc (.obt (.obi (.obi (.obi (.obi (.br (!!ar x4 1 30000) (.ob (!!ar x4 1 30000) (.ob (!!ar x4 1 30000) (.ob (!!ar x4 1 30000) (.ob (!!ar x4 1 30000) (.obc (.obt (.br (!dq 4 (aa ae (bQ [vi x0,vi x1,vi x2,vi x3] 0 1)) (-200000) 200000) (.ret (vi 7)) (.obi (.obi (.obi (.obi (.obi (.br (bif decide (x1 < x0) then true else decide (x3 < x2)) (.ret (vi 2)) (.ret (vi 0))))))))))))))) (.ret (vi 7))))))))
theorem Tt:dh dm (aS JJ nD u0 WM [V.agg [vi x0,vi x1,vi x2,vi x3],vi x4]) (Y2 x0 x1 x2 x3 x4):=⟨by kernel_rfl,by kernel_rfl⟩
def fj:Int:=bif !!ar x4 1 30000 then bif !dq 4 (aa ae (bQ [vi x0,vi x1,vi x2,vi x3] 0 1)) (-200000) 200000 then 7 else bif bif decide (x1 < x0) then true else decide (x3 < x2) then 2 else 0 else 7
def wz:V:=.int i64 (fj x0 x1 x2 x3 x4)
theorem adK:aN cr (Y2 x0 x1 x2 x3 x4) (wz x0 x1 x2 x3 x4):=av (af (evObi (evObi (evObi (evObi (evBr (fun h0=>aM (by first | assumption | (fail)) (aM (by first | assumption | (fail)) (aM (by first | assumption | (fail)) (aM (by first | assumption | (fail)) (av (af (evBr (fun h1=>evRet (by unfold wz fj; try rw [h0]; try rw [h1]; rfl)) (fun h1=>evObi (evObi (evObi (evObi (evObi (evBr (fun h2=>evRet (by unfold wz fj; try rw [h0]; try rw [h1]; try rw [h2]; rfl)) (fun h2=>evRet (by unfold wz fj; try rw [h0]; try rw [h1]; try rw [h2]; rfl))))))))))))))) (fun h0=>evRet (by unfold wz fj; try rw [h0]; rfl))))))))
end
def YQ:aB:=bI [.agg iu,tI] (fun _=>True) fun
 | [.agg [.int _ x0,.int _ x1,.int _ x2,.int _ x3],.int _ x4]=>wz x0 x1 x2 x3 x4
 | _=>.any
theorem adQ:(vP YQ).Ok Tryz.prog 87:=bY ln Tryz.func87 (by kernel_rfl) fun ds hp=>dG (Tt ..) (adK _ _ _ _ _)
def W5 (s0:ByteArray) (n1:Nat) (f1:ah) (n3:Nat) (f3:ah) (n5:Nat) (f5:ah) (x7 x8 x9 x10 x11:Int):RT Empty:=.ob (decide ((0:Int)<=0/\0 < (↑n1:Int))) (.obi (.obi (.obi (.asm (decide (i64.wrap (ay (f1 0) * x11)<=x9)=true->n1<=9223372036854775807) (.obi (.obi (.obi (.obj (decide (i64.wrap (ay (f1 0) * x11)<=x9)) (decide (0<=i64.wrap ((↑n1:Int) - 1)/\i64.wrap ((↑n1:Int) - 1) < (↑n1:Int))) (.obi (.obi (.obi (.obi (.obi (.obi (.obi (.obi (.obj (bif decide (i64.wrap (ay (f1 0) * x11)<=x9) then decide (x9<=i64.wrap (ay (f1 (i64.wrap ((↑n1:Int) - 1)).toNat) * x11)) else false) (decide ((0:Int)<=0/\0 < (↑n3:Int))) (.obi (.obi (.obi (.obi (.obi (.obi (.obi (.obi (.obi (.asm ((bif bif decide (i64.wrap (ay (f1 0) * x11)<=x9) then decide (x9<=i64.wrap (ay (f1 (i64.wrap ((↑n1:Int) - 1)).toNat) * x11)) else false then decide (i64.wrap (ay (f3 0) * x11)<=x10) else false)=true->n3<=9223372036854775807) (.obi (.obi (.obi (.obj (bif bif decide (i64.wrap (ay (f1 0) * x11)<=x9) then decide (x9<=i64.wrap (ay (f1 (i64.wrap ((↑n1:Int) - 1)).toNat) * x11)) else false then decide (i64.wrap (ay (f3 0) * x11)<=x10) else false) (decide (0<=i64.wrap ((↑n3:Int) - 1)/\i64.wrap ((↑n3:Int) - 1) < (↑n3:Int))) (.obi (.obi (.obi (.obi (.obi (.obi (.ret (V.bool (bif bif bif decide (i64.wrap (ay (f1 0) * x11)<=x9) then decide (x9<=i64.wrap (ay (f1 (i64.wrap ((↑n1:Int) - 1)).toNat) * x11)) else false then decide (i64.wrap (ay (f3 0) * x11)<=x10) else false then decide (x10<=i64.wrap (ay (f3 (i64.wrap ((↑n3:Int) - 1)).toNat) * x11)) else false))))))))))))))))))))))))))))))))))))))))
theorem UY (s0:ByteArray) (n1:Nat) (f1:ah) (n3:Nat) (f3:ah) (n5:Nat) (f5:ah) (x7 x8 x9 x10 x11:Int):dh dm (aS JJ nD u0 aiK [V.agg [V.str s0,V.sl n1 (aa ae f1),V.sl n3 (aa ae f3),V.sl n5 (aa [Ty.sl ae] f5),vi x7,vi x8],vi x9,vi x10,vi x11]) (W5 s0 n1 f1 n3 f3 n5 f5 x7 x8 x9 x10 x11):=⟨by kernel_rfl,by kernel_rfl⟩
def eB (n1:Nat) (f1:ah) (n3:Nat) (f3:ah) (x9 x10 x11:Int):Bool:=bif bif bif decide (i64.wrap (ay (f1 0) * x11)<=x9) then decide (x9<=i64.wrap (ay (f1 (i64.wrap ((↑n1:Int) - 1)).toNat) * x11)) else false then decide (i64.wrap (ay (f3 0) * x11)<=x10) else false then decide (x10<=i64.wrap (ay (f3 (i64.wrap ((↑n3:Int) - 1)).toNat) * x11)) else false
def R1260 (s0:ByteArray) (n1:Nat) (f1:ah) (n3:Nat) (f3:ah) (n5:Nat) (f5:ah) (x7 x8 x9 x10 x11:Int):V:=.bool (eB n1 f1 n3 f3 x9 x10 x11)
theorem aeL (s0:ByteArray) (n1:Nat) (f1:ah) (n3:Nat) (f3:ah) (n5:Nat) (f5:ah) (x7 x8 x9 x10 x11:Int) (hp:(1<=n1/\n1<=1000)/\(1<=n3/\n3<=1000)):aN cr (W5 s0 n1 f1 n3 f3 n5 f5 x7 x8 x9 x10 x11) (R1260 s0 n1 f1 n3 f3 n5 f5 x7 x8 x9 x10 x11):=aM (by first | assumption | ((first | exact dqt (by omega) | (rw [wrapI (by omega) (by omega)]; exact dqt (by omega))))) (evObi (evObi (evObi (evAsm (fun a0=>evObi (evObi (evObi (evObj (by first | assumption | ((intro _; (first | exact dqt (by omega) | (rw [wrapI (by omega) (by omega)]; exact dqt (by omega)))))) (evObi (evObi (evObi (evObi (evObi (evObi (evObi (evObi (evObj (by first | assumption | ((intro _; (first | exact dqt (by omega) | (rw [wrapI (by omega) (by omega)]; exact dqt (by omega)))))) (evObi (evObi (evObi (evObi (evObi (evObi (evObi (evObi (evObi (evAsm (fun a0=>evObi (evObi (evObi (evObj (by first | assumption | ((intro _; (first | exact dqt (by omega) | (rw [wrapI (by omega) (by omega)]; exact dqt (by omega)))))) (evObi (evObi (evObi (evObi (evObi (evObi (evRet (by unfold R1260 eB; rfl)))))))))))))))))))))))))))))))))))))))
def WK:aB:=bI [.agg al,tI,tI,tI] (fun
 | [.agg [.str s0,.sl n1 f1,.sl n3 f3,.sl n5 f5,.int _ x7,.int _ x8],.int _ x9,.int _ x10,.int _ x11]=>(1<=n1/\n1<=1000)/\(1<=n3/\n3<=1000)
 | _=>False) fun
 | [.agg [.str s0,.sl n1 f1,.sl n3 f3,.sl n5 f5,.int _ x7,.int _ x8],.int _ x9,.int _ x10,.int _ x11]=>R1260 s0 n1 f1 n3 f3 n5 f5 x7 x8 x9 x10 x11
 | _=>.any
theorem ae4:(vP WK).Ok Tryz.prog 260:=bY ln Tryz.func260 (by kernel_rfl) fun ds hp=>dG (UY ..) (aeL _ _ _ _ _ _ _ _ _ _ _ _ hp)
def Wt (s0:ByteArray) (n1:Nat) (f1:ah) (n3:Nat) (f3:ah) (n5:Nat) (f5:ah) (x7 x8:Int) (n9:Nat) (f9:ah) (n11:Nat) (f11:ah) (x13 x14 x15:Int):RT Empty:=.ob (decide ((0:Int)<=0/\0 < (↑n9:Int))) (.asm (true=true->n9<=9223372036854775807) (.ob (decide (0<=i64.wrap ((↑n9:Int) - 1)/\i64.wrap ((↑n9:Int) - 1) < (↑n9:Int))) (.obc (.obt (.obi (.obi (.obj (ar x14 (ay (f9 0)) (ay (f9 (i64.wrap ((↑n9:Int) - 1)).toNat))) (decide ((0:Int)<=0/\0 < (↑n11:Int))) (.obi (.obi (.obi (.obi (.asm (ar x14 (ay (f9 0)) (ay (f9 (i64.wrap ((↑n9:Int) - 1)).toNat))=true->n11<=9223372036854775807) (.obi (.obi (.obi (.obj (ar x14 (ay (f9 0)) (ay (f9 (i64.wrap ((↑n9:Int) - 1)).toNat))) (decide (0<=i64.wrap ((↑n11:Int) - 1)/\i64.wrap ((↑n11:Int) - 1) < (↑n11:Int))) (.obi (.br (ar x14 (ay (f9 0)) (ay (f9 (i64.wrap ((↑n9:Int) - 1)).toNat))) (.ob (ar x14 (ay (f9 0)) (ay (f9 (i64.wrap ((↑n9:Int) - 1)).toNat))) (.ob (ar x14 (ay (f9 0)) (ay (f9 (i64.wrap ((↑n9:Int) - 1)).toNat))) (.ob (ar x14 (ay (f9 0)) (ay (f9 (i64.wrap ((↑n9:Int) - 1)).toNat))) (.obc (.obt (.ret (V.bool (ar x15 (ay (f11 0)) (ay (f11 (i64.wrap ((↑n11:Int) - 1)).toNat)))))))))) (.ret (V.kb false))))))))))))))))))))
theorem Wb (s0:ByteArray) (n1:Nat) (f1:ah) (n3:Nat) (f3:ah) (n5:Nat) (f5:ah) (x7 x8:Int) (n9:Nat) (f9:ah) (n11:Nat) (f11:ah) (x13 x14 x15:Int):dh dm (aS JJ nD u0 YX [V.agg [V.str s0,V.sl n1 (aa ae f1),V.sl n3 (aa ae f3),V.sl n5 (aa [Ty.sl ae] f5),vi x7,vi x8,V.sl n9 (aa ae f9),V.sl n11 (aa ae f11),vi x13],vi x14,vi x15]) (Wt s0 n1 f1 n3 f3 n5 f5 x7 x8 n9 f9 n11 f11 x13 x14 x15):=⟨by kernel_rfl,by kernel_rfl⟩
def bc (n9:Nat) (f9:ah) (n11:Nat) (f11:ah) (x14 x15:Int):Bool:=bif ar x14 (ay (f9 0)) (ay (f9 (i64.wrap ((↑n9:Int) - 1)).toNat)) then ar x15 (ay (f11 0)) (ay (f11 (i64.wrap ((↑n11:Int) - 1)).toNat)) else false
def Fj (s0:ByteArray) (n1:Nat) (f1:ah) (n3:Nat) (f3:ah) (n5:Nat) (f5:ah) (x7 x8:Int) (n9:Nat) (f9:ah) (n11:Nat) (f11:ah) (x13 x14 x15:Int):V:=.bool (bc n9 f9 n11 f11 x14 x15)
theorem adH (s0:ByteArray) (n1:Nat) (f1:ah) (n3:Nat) (f3:ah) (n5:Nat) (f5:ah) (x7 x8:Int) (n9:Nat) (f9:ah) (n11:Nat) (f11:ah) (x13 x14 x15:Int) (hp:(1<=n9/\n9<=1000)/\(1<=n11/\n11<=1000)):aN cr (Wt s0 n1 f1 n3 f3 n5 f5 x7 x8 n9 f9 n11 f11 x13 x14 x15) (Fj s0 n1 f1 n3 f3 n5 f5 x7 x8 n9 f9 n11 f11 x13 x14 x15):=aM (by first | assumption | ((first | exact dqt (by omega) | (rw [wrapI (by omega) (by omega)]; exact dqt (by omega))))) (evAsm (fun a0=>aM (by first | assumption | ((first | exact dqt (by omega) | (rw [wrapI (by omega) (by omega)]; exact dqt (by omega))))) (av (af (evObi (evObi (evObj (by first | assumption | ((intro _; (first | exact dqt (by omega) | (rw [wrapI (by omega) (by omega)]; exact dqt (by omega)))))) (evObi (evObi (evObi (evObi (evAsm (fun a0=>evObi (evObi (evObi (evObj (by first | assumption | ((intro _; (first | exact dqt (by omega) | (rw [wrapI (by omega) (by omega)]; exact dqt (by omega)))))) (evObi (evBr (fun h0=>aM (by first | assumption | ((first | exact dqt (by omega) | (rw [wrapI (by omega) (by omega)]; exact dqt (by omega))))) (aM (by first | assumption | ((first | exact dqt (by omega) | (rw [wrapI (by omega) (by omega)]; exact dqt (by omega))))) (aM (by first | assumption | ((first | exact dqt (by omega) | (rw [wrapI (by omega) (by omega)]; exact dqt (by omega))))) (av (af (evRet (by unfold Fj bc; try rw [h0]; rfl))))))) (fun h0=>evRet (by unfold Fj bc; try rw [h0]; rfl))))))))))))))))))))
def Za:aB:=bI [.agg [.str,.sl ae,.sl ae,.sl [.sl ae],tI,tI,.sl ae,.sl ae,tI],tI,tI] (fun
 | [.agg [.str s0,.sl n1 f1,.sl n3 f3,.sl n5 f5,.int _ x7,.int _ x8,.sl n9 f9,.sl n11 f11,.int _ x13],.int _ x14,.int _ x15]=>(1<=n9/\n9<=1000)/\(1<=n11/\n11<=1000)
 | _=>False) fun
 | [.agg [.str s0,.sl n1 f1,.sl n3 f3,.sl n5 f5,.int _ x7,.int _ x8,.sl n9 f9,.sl n11 f11,.int _ x13],.int _ x14,.int _ x15]=>Fj s0 n1 f1 n3 f3 n5 f5 x7 x8 n9 f9 n11 f11 x13 x14 x15
 | _=>.any
theorem abE:(vP Za).Ok Tryz.prog 170:=bY ln Tryz.func170 (by kernel_rfl) fun ds hp=>dG (Wb ..) (adH _ _ _ _ _ _ _ _ _ _ _ _ _ _ _ _ hp)
end
end Go.Dx
namespace Go.Dx
noncomputable section
theorem agS {a b:Bool} (h:(a && b)=true):a=true:=by cases a <;> simp_all
theorem aiB {a b:Bool} (h:(a && b)=true):b=true:=by cases a <;> simp_all
end
end Go.Dx
namespace Go.Dx
open Go.IntKind (i64 u64 u8)
open Go.Sx Go.Proofs
noncomputable section
def pC:bd:=[(283,.con Ya),(284,.con Xl),(86,.con W4),(178,.con ZA),(258,.con WL),(286,.con Wo),(87,.con YQ),(260,.con WK),(170,.con Za),(89,.conZ Dd yq),(166,.conN wx yaA),(111,.con K7),(226,.con C3),(225,.con Km),(165,.con FG),(70,.con Nh),(68,.con L9),(46,.con KN),(69,.con M8),(23,.con MN),(22,.con NN),(67,.con Qg),(151,.con Kr),(125,.con yaO),(191,.con O3),(71,.con Ll),(220,.con OK),(152,.con ac5),(114,.con O0),(121,.con Je),(221,.con NR),(192,.con Kc),(62,.con PN),(154,.con Lw),(155,.con Ic),(156,.con MM),(193,.con Qs),(256,.con Ie),(74,.con Io),(153,.con Lu),(57,.con LO),(54,.con N4),(143,.con LF),(66,.con Jr),(115,.con OL),(122,.con KC),(63,.con PK),(59,.con LL),(144,.con Qx),(145,.con M5),(127,.con Is),(130,.con yaP),(132,.con FO),(129,.con KR),(198,.con E0),(199,.con Ez),(164,.con Jk),(152,.con ab1),(221,.con IH),(182,.con OU),(92,.con MK),(108,.con KX),(99,.con JH),(218,.con OQ),(222,.con PI),(200,.con Js),(216,.con N5),(217,.con OZ),(133,.con DR),(134,.con KH),(61,.con Qe),(65,.con Kn),(180,.con Ig),(128,.con Pw),(131,.con Lk),(181,.con Jn),(91,.con Nm),(106,.con Kv),(120,.con N3),(64,.con C24),(60,.con C23),(146,.con C70),(135,.con C62),(141,.con C68),(136,.con C63),(142,.con C69),(211,.inl aeo u0),(210,.inl ZP u0),(209,.con R6),(207,.con Uh),(150,.con C73),(253,.con Vm),(137,.con C64),(139,.con C66),(205,.con Qu),(138,.con C65),(140,.con C67),(219,.con Oj),(149,.con C72),(206,.con C45),(208,.con C90),(213,.con O4),(215,.con Jf),(152,.con C99),(252,.con Na),(254,.con IY),(255,.con Pg),(204,.con Mj),(212,.con MY),(214,.con Kh),(147,.con C51),(221,.con Pd),(250,.con Mf),(161,.con C86),(148,.con C71),(251,.con Mg),(196,.con FA)]
theorem uW:aR Tryz.prog eqs its pC:=.con abk (.con aaH (.con adF (.con adu (.con aa5 (.con abq (.con adQ (.con ae4 (.con abE (.conZ Cz (.conN IL (.con It (.con BU (.con CV (.con Cr (.con MF (.con Jq (.con Qz (.con IB (.con NX (.con yas (.con Kf (.con Lb (.con My (.con H5 (.con JA (.con PS (.con X7 (.con KU (.con MP (.con Lv (.con B6 (.con Mr (.con yaN (.con LW (.con NH (.con Nj (.con IP (.con P5 (.con OF (.con Oe (.con Ot (.con BF (.con Kb (.con Qr (.con M2 (.con IC (.con CQ (.con Ku (.con O1 (.con NJ (.con QF (.con A6 (.con KY (.con CL (.con Cc (.con Ow (.con Yz (.con Ii (.con I7 (.con Cl (.con Bl (.con J8 (.con Ia (.con PC (.con J7 (.con H7 (.con ID (.con CU (.con Kk (.con KO (.con Qq (.con Nf (.con Nb (.con Oh (.con IU (.con CI (.con Bu (.con Lx (.con agQ (.con ae0 (.con abo (.con afc (.con adJ (.con acY (.con adP (fU Tryz.func211 (by kernel_rfl) (fU Tryz.func210 (by kernel_rfl) (.con Kj (.con OY (.con abO (.con yaR (.con aaD (.con acq (.con Ee (.con Te (.con Vr (.con GF (.con Vx (.con QR (.con Ug (.con Gj (.con Ea (.con UA (.con Dh (.con E8 (.con DT (.con E7 (.con EK (.con Ge (.con Tg (.con D7 (.con yay (.con OH (.con VU (.con LK (.con P9 (.nil)))))))))))))))))))))))))))))))))))))))))))))))))))))))))))))))))))))))))))))))))))))))))))))))))))))))))))))))))))))
section
variable (x0 x1 x2 x3 x4:Int)
include x0 x1 x2 x3 x4
def Xn:RT Empty:=.obc (.obt (.obi (.br (!!aA x4 1 30000) (.ob (!!aA x4 1 30000) (.obc (.obt (.obi (.br (!!cY x0) (.ob (!!cY x0) (.obc (.obt (.obi (.br (!!cY x1) (.ob (!!cY x1) (.obc (.obt (.obi (.br (!!cY x2) (.ob (!!cY x2) (.obc (.obt (.br (!cY x3) (.ret (vi 7)) (.obi (.obi (.obi (.obi (.obi (.br (bif decide (x1 < x0) then true else decide (x3 < x2)) (.ret (vi 2)) (.ret (vi 0)))))))))))) (.ret (vi 7))))))) (.ret (vi 7))))))) (.ret (vi 7))))))) (.ret (vi 7)))))
theorem Vv:dh dm (aS JJ pC u0 ahu [V.agg [vi x0,vi x1,vi x2,vi x3],vi x4]) (Xn x0 x1 x2 x3 x4):=⟨by kernel_rfl,by kernel_rfl⟩
def d0:Int:=bif !!aA x4 1 30000 then bif !!cY x0 then bif !!cY x1 then bif !!cY x2 then bif !cY x3 then 7 else bif bif decide (x1 < x0) then true else decide (x3 < x2) then 2 else 0 else 7 else 7 else 7 else 7
def qm:V:=.int i64 (d0 x0 x1 x2 x3 x4)
theorem acy:aN cr (Xn x0 x1 x2 x3 x4) (qm x0 x1 x2 x3 x4):=av (af (evObi (evBr (fun h0=>aM (by first | assumption | (fail)) (av (af (evObi (evBr (fun h1=>aM (by first | assumption | (fail)) (av (af (evObi (evBr (fun h2=>aM (by first | assumption | (fail)) (av (af (evObi (evBr (fun h3=>aM (by first | assumption | (fail)) (av (af (evBr (fun h4=>evRet (by unfold qm d0; try rw [h0]; try rw [h1]; try rw [h2]; try rw [h3]; try rw [h4]; rfl)) (fun h4=>evObi (evObi (evObi (evObi (evObi (evBr (fun h5=>evRet (by unfold qm d0; try rw [h0]; try rw [h1]; try rw [h2]; try rw [h3]; try rw [h4]; try rw [h5]; rfl)) (fun h5=>evRet (by unfold qm d0; try rw [h0]; try rw [h1]; try rw [h2]; try rw [h3]; try rw [h4]; try rw [h5]; rfl)))))))))))) (fun h3=>evRet (by unfold qm d0; try rw [h0]; try rw [h1]; try rw [h2]; try rw [h3]; rfl))))))) (fun h2=>evRet (by unfold qm d0; try rw [h0]; try rw [h1]; try rw [h2]; rfl))))))) (fun h1=>evRet (by unfold qm d0; try rw [h0]; try rw [h1]; rfl))))))) (fun h0=>evRet (by unfold qm d0; try rw [h0]; rfl)))))
end
def Zs:aB:=bI [.agg iu,tI] (fun _=>True) fun
 | [.agg [.int _ x0,.int _ x1,.int _ x2,.int _ x3],.int _ x4]=>qm x0 x1 x2 x3 x4
 | _=>.any
theorem aav:(vP Zs).Ok Tryz.prog 230:=bY uW Tryz.func230 (by kernel_rfl) fun ds hp=>dG (Vv ..) (acy _ _ _ _ _)
inductive pY where
 | L0 (ia0 ia1:Int)
def Sf (n0:Nat) (f0:ah) (x2:Int):pY->bp × List O × Option Ex
 | .L0 ia0 ia1=>([(8,vi ia0),(7,vi ia1),(6,vi (↑n0:Int)),(0,V.sl n0 (aa ae f0)),(1,vi x2)],[],none)
def acK:pY->JJ
 | .L0 ia0 ia1=>(0,[])
section
variable (n0:Nat) (f0:ah) (x2:Int)
include n0 f0 x2
def OR:T (bN JJ):=aS JJ pC u0 Wy [V.sl n0 (aa ae f0),vi x2]
def yQ (cx:List Cx):Lp JJ:=fb (eL (OR n0 f0 x2) [])
def aej:JJ->Lp JJ
 | (0,cx)=>yQ n0 f0 x2 cx
 | (_,cx)=>yQ n0 f0 x2 cx
def agw:LD JJ pY:=⟨acK,aej n0 f0 x2,Sf n0 f0 x2⟩
def uq:pY->RT pY
 | .L0 ia0 ia1=>.br (decide (ia1 < ia0)) (.obt (.ob (decide (0<=i64.wrap ((u64.wrap (i64.wrap (ia1+ia0))).fdiv (2 ^ 1))/\i64.wrap ((u64.wrap (i64.wrap (ia1+ia0))).fdiv (2 ^ 1)) < (↑n0:Int))) (.obc (.obt (.br (mO (ay (f0 (i64.wrap ((u64.wrap (i64.wrap (ia1+ia0))).fdiv (2 ^ 1))).toNat)) x2) (.next [] (pY.L0 (ia0) (i64.wrap (i64.wrap ((u64.wrap (i64.wrap (ia1+ia0))).fdiv (2 ^ 1))+1))) []) (.next [] (pY.L0 (i64.wrap ((u64.wrap (i64.wrap (ia1+ia0))).fdiv (2 ^ 1))) (ia1)) [])))))) (.obi (.obi (.obj (decide (ia1 < (↑n0:Int))) (decide (0<=ia1/\ia1 < (↑n0:Int))) (.obi (.obi (.obi (.obi (.obi (.obi (.obj (decide (ia1 < (↑n0:Int)) && !ay (f0 ia1.toNat) == x2) (decide (0<=ia1/\ia1 < (↑n0:Int))) (.obi (.br (decide (ia1 < (↑n0:Int)) && !ay (f0 ia1.toNat) == x2) (.ob (decide (ia1 < (↑n0:Int)) && !ay (f0 ia1.toNat) == x2) (.obc (.obt (.br (kZ (ay (f0 ia1.toNat))) (.ob (kZ (ay (f0 ia1.toNat))) (.obc (.obt (.obi (.ret (V.tup [vi ia1,V.bool (bif decide (ia1 < (↑n0:Int)) then kZ x2 else false)])))))) (.obi (.ret (V.tup [vi ia1,V.bool (bif decide (ia1 < (↑n0:Int)) then false else false)]))))))) (.obi (.obj (decide (ia1 < (↑n0:Int)) && !ay (f0 ia1.toNat) == x2) (false) (.obi (.obi (.br (ay (f0 ia1.toNat) == x2) (.obi (.ret (V.tup [vi ia1,V.bool (bif decide (ia1 < (↑n0:Int)) then true else false)]))) (.obi (.bry (decide (ia1 < (↑n0:Int))) (.ret (V.tup [vi ia1,V.kb false])))))))))))))))))))))
end
def KD (n0:Nat) (f0:ah) (x2:Int):RT pY:=.asm (true=true->n0<=9223372036854775807) (.enter [] (pY.L0 ((↑n0:Int)) (0)) [])
theorem VP (n0:Nat) (f0:ah) (x2:Int):dR pC u0 (agw n0 f0 x2) (OR n0 f0 x2) (KD n0 f0 x2) (uq n0 f0 x2):=⟨⟨by kernel_rfl,by kernel_rfl⟩,fun s=>by cases s <;> exact ⟨by kernel_rfl,by kernel_rfl⟩⟩
def AZ (f:Nat->Int) (t:Int):Nat->Nat->Nat->Nat
 | 0,i,_=>i
 | d+1,i,j=>bif Nat.blt i j then bif decide (f ((i+j) / 2) < t) then AZ f t d ((i+j) / 2+1) j else AZ f t d i ((i+j) / 2) else i
section
variable (n0:Nat) (f0:ah) (x2:Int)
include n0 f0 x2
def bs57:Nat:=AZ (fun k=>ay (f0 k)) x2 n0 0 n0
def gW:Int:=(bs57 n0 f0 x2:Int)
def iO:Bool:=bif decide ((bs57 n0 f0 x2:Int) < (n0:Int)) then ay (f0 (bs57 n0 f0 x2)) == x2 else false
end
theorem akh {i j:Nat} (h:i+j<=2000):i64.wrap ((u64.wrap (i64.wrap ((i:Int)+(j:Int)))).fdiv (2 ^ 1))=(((i+j) / 2:Nat):Int):=by
 rw [wrapI (x:=(i:Int)+(j:Int)) (by omega) (by omega)]
 have:u64.wrap ((i:Int)+(j:Int))=(i:Int)+(j:Int):=by
  simp only [IntKind.wrap,IntKind.bits,IntKind.signed,Bool.false_and]
  rw [if_neg (by simp)]
  omega
 rw [this,Int.fdiv_eq_ediv_of_nonneg _ (by decide),wrapI (by omega) (by omega)]
 omega
theorem af3 (x:Int):kZ x=false:=by unfold kZ; simp
theorem ajw {b:Bool} (h:(!b)=true):b=false:=by cases b <;> first | rfl | cases h
theorem aeP (x y:Int):mO x y=decide (x < y):=by
 unfold mO
 simp
section
variable (n0:Nat) (f0:ah) (x2:Int)
include n0 f0 x2
theorem ajW (hn:n0<=1000):∀ d i j:Nat,j - i<=d->i<=j->j<=n0->AZ (fun k=>ay (f0 k)) x2 d i j=bs57 n0 f0 x2->Ev (uq n0 f0 x2) (.L0 (j:Int) (i:Int)) (.tup [.int .i64 (gW n0 f0 x2),.bool (iO n0 f0 x2)]):=by
 intro d
 have exit:∀ i j:Nat,j<=i->j<=n0->i<=j->i=bs57 n0 f0 x2->Ev (uq n0 f0 x2) (.L0 (j:Int) (i:Int)) (.tup [.int .i64 (gW n0 f0 x2),.bool (iO n0 f0 x2)]):=by
  intro i j h1 h2 h3 e
  refine Ev.of rfl (ft (jx (by omega)) ?_)
  refine evObi (evObi (evObj (fun h=>dqt (by have:=of_decide_eq_true h; omega)) ?_))
  refine evObi (evObi (evObi (evObi (evObi (evObi (evObj (fun h=>dqt (by have:=of_decide_eq_true (agS h); omega)) (evObi ?_)))))))
  have R:∀ b,b=iO n0 f0 x2->cn (V.tup [vi (i:Int),V.bool b])=cn (V.tup [vi (gW n0 f0 x2),V.bool (iO n0 f0 x2)]):=fun b hb=>by
   unfold gW; rw [← e,hb]
  have G:iO n0 f0 x2=bif decide ((i:Int) < (n0:Int)) then ay (f0 i) == x2 else false:=by unfold iO; rw [← e]
  rw [Int.toNat_natCast]
  refine evBr (fun h=>aM h (av (af (ft (af3 _) (evObi (evRet (R _ ?_))))))) (fun h=>?_)
  ·rw [G,show (ay (f0 i) == x2)=false from ajw (aiB h)]
  ·refine evObi (evObj (fun h'=>absurd (h'.symm.trans h) (by decide)) (evObi (evObi (evBr (fun h2=>evObi (evRet (R _ ?_))) (fun h2=>?_)))))
   ·rw [G,show (ay (f0 i) == x2)=true from h2]
   ·have h3:decide ((i:Int) < (n0:Int))=false:=by
     cases hd:decide ((i:Int) < (n0:Int)) with
     | false=>rfl
     | true=>rw [hd,h2] at h; cases h
    refine evObi (aiL h3 (evRet ?_))
    exact R false (by rw [G,h3]; rfl)
 induction d with
 | zero=>intro i j h1 h2 h3 e; exact exit i j (by omega) h3 h2 e
 | succ d ih =>
   intro i j h1 h2 h3 e
   by_cases hlt:i < j
   ·refine Ev.of rfl (fA (dqt (by omega)) (af ?_))
    rw [akh (by omega),Int.toNat_natCast,aeP]
    refine aM (dqt (by omega)) (av (af (evBr (fun h=>aQ ?_) (fun h=>aQ ?_))))
    ·have e':AZ (fun k=>ay (f0 k)) x2 d ((i+j) / 2+1) j=bs57 n0 f0 x2:=by
      rw [← e]; show _=bif Nat.blt i j then _ else _
      rw [Ew hlt,h]; rfl
     have:=ih ((i+j) / 2+1) j (by omega) (by omega) h3 e'
     rwa [show i64.wrap ((((i+j) / 2:Nat):Int)+1)=(((i+j) / 2+1:Nat):Int) by rw [wrapI (by omega) (by omega)]; omega]
    ·have e':AZ (fun k=>ay (f0 k)) x2 d i ((i+j) / 2)=bs57 n0 f0 x2:=by
      rw [← e]; show _=bif Nat.blt i j then _ else _
      rw [Ew hlt,h]; rfl
     exact ih i ((i+j) / 2) (by omega) (by omega) (by omega) e'
   ·refine exit i j (by omega) h3 h2 ?_
    rw [← e]; show _=bif Nat.blt i j then _ else _
    rw [Mu (by omega)]; rfl
theorem KV (hp:n0<=1000):aN (Ev (uq n0 f0 x2)) (KD n0 f0 x2) (.tup [.int .i64 (gW n0 f0 x2),.bool (iO n0 f0 x2)]):=bk fun _=>aH (ajW n0 f0 x2 hp n0 0 n0 (by omega) (Nat.zero_le _) (Nat.le_refl _) rfl)
theorem abg (hp:n0<=1000):aN (Ev (uq n0 f0 x2)) (KD n0 f0 x2) (.tup [.int .i64 (gW n0 (aa ae f0) x2),.bool (iO n0 (aa ae f0) x2)]):=KV n0 f0 x2 hp
end
def ZI:aB:=bI [.sl ae,tI] (fun
 | [.sl n0 f0,.int _ x2]=>n0<=1000
 | _=>False) fun
 | [.sl n0 f0,.int _ x2]=>.tup [.int .i64 (gW n0 f0 x2),.bool (iO n0 f0 x2)]
 | _=>.any
theorem acv:(vP ZI).Ok Tryz.prog 257:=bY uW Tryz.func257 (by kernel_rfl) fun ds hp=>jE (VP ..) (abg _ _ _ hp)
inductive pM where
 | L0 (ia0 ia1:Int)
def R0 (n0:Nat) (f0:ah) (x2 x3:Int):pM->bp × List O × Option Ex
 | .L0 ia0 ia1=>([(8,vi ia0),(7,vi ia1),(0,V.sl n0 (aa ae f0)),(1,vi x2),(2,vi x3)],[],none)
def adz:pM->JJ
 | .L0 ia0 ia1=>(0,[])
section
variable (n0:Nat) (f0:ah) (x2 x3:Int)
include n0 f0 x2 x3
def LU:T (bN JJ):=aS JJ pC u0 afV [V.sl n0 (aa ae f0),vi x2,vi x3]
def y8 (cx:List Cx):Lp JJ:=fb (eL (LU n0 f0 x2 x3) [])
def aa6:JJ->Lp JJ
 | (0,cx)=>y8 n0 f0 x2 x3 cx
 | (_,cx)=>y8 n0 f0 x2 x3 cx
def ajS:LD JJ pM:=⟨adz,aa6 n0 f0 x2 x3,R0 n0 f0 x2 x3⟩
def yg:pM->RT pM
 | .L0 ia0 ia1=>.asm (true=true->n0<=9223372036854775807) (.br (decide (i64.wrap (ia0+1) < (↑n0:Int))) (.ob (decide (0<=ia0/\ia0 < (↑n0:Int))) (.br (decide (i64.wrap (ay (f0 ia0.toNat) * x3)<=x2)) (.next [] (pM.L0 (i64.wrap (ia0+1)) (ia0)) []) (.next [] (pM.L0 (i64.wrap (ia0+1)) (ia1)) []))) (.ret (vi ia1)))
end
def JU (n0:Nat) (f0:ah) (x2 x3:Int):RT pM:=.enter [] (pM.L0 (0) (0)) []
theorem SY (n0:Nat) (f0:ah) (x2 x3:Int):dR pC u0 (ajS n0 f0 x2 x3) (LU n0 f0 x2 x3) (JU n0 f0 x2 x3) (yg n0 f0 x2 x3):=⟨⟨by kernel_rfl,by kernel_rfl⟩,fun s=>by cases s <;> exact ⟨by kernel_rfl,by kernel_rfl⟩⟩
def HF (p:Nat->Bool):Nat->Nat
 | 0=>0
 | k+1=>bif p k then k else HF p k
section
variable (n0:Nat) (f0:ah) (x2 x3:Int)
include n0 f0 x2 x3
def aF:Int:=(HF (fun i=>decide (i64.wrap (ay (f0 i) * x3)<=x2)) (n0 - 1):Int)
theorem OC:aN (Ev (yg n0 f0 x2 x3)) (JU n0 f0 x2 x3) (.int .i64 (aF n0 f0 x2 x3)):=by
 refine aH ?_
 have key:∀ k,k<=n0 - 1->Ev (yg n0 f0 x2 x3) (.L0 (k:Int) (HF (fun i=>decide (i64.wrap (ay (f0 i) * x3)<=x2)) k:Int)) (.int .i64 (aF n0 f0 x2 x3)):=by
  refine dH fun k hk ih=>Ev.of rfl (bk fun hn=>?_)
  by_cases hlt:k < n0 - 1
  ·have hw:i64.wrap ((k:Int)+1)=((k+1:Nat):Int):=by rw [wrapI (by omega) (by omega)]; omega
   rw [hw]
   refine fA (dqt (by omega)) (aM (dqt (by omega)) (evBr (fun h=>aQ ?_) (fun h=>aQ ?_)))
   ·have:=ih hlt
    rw [Int.toNat_natCast] at h
    simp only [HF,h,cond_true] at this
    exact this
   ·have:=ih hlt
    rw [Int.toNat_natCast] at h
    simp only [HF,h,cond_false] at this
    exact this
  ·refine ft (jx ?_) (evRet ?_)
   ·rcases Nat.lt_or_ge (k+1) 9223372036854775808 with h1 | h1
    ·rw [wrapI (by omega) (by omega)]; omega
    ·omega
   ·have:k=n0 - 1:=by omega
    subst this; rfl
 exact key 0 (Nat.zero_le _)
theorem aaV:aN (Ev (yg n0 f0 x2 x3)) (JU n0 f0 x2 x3) (.int .i64 (aF n0 (aa ae f0) x2 x3)):=OC n0 f0 x2 x3
end
def Y1:aB:=bI [.sl ae,tI,tI] (fun _=>True) fun
 | [.sl n0 f0,.int _ x2,.int _ x3]=>.int .i64 (aF n0 f0 x2 x3)
 | _=>.any
theorem aeO:(vP Y1).Ok Tryz.prog 285:=bY uW Tryz.func285 (by kernel_rfl) fun ds hp=>jE (SY ..) (aaV _ _ _ _)
inductive ry where
 | L0 (ia0 ia1 ia2:Int)
def Tl (x0 x1:Int) (n2:Nat) (f2:ah):ry->bp × List O × Option Ex
 | .L0 ia0 ia1 ia2=>([(9,vi ia0),(8,vi (↑n2:Int)),(7,V.sl n2 (aa b4 f2)),(4,V.pl 0 0),(2,V.pl 1 0)],[O.cells [vi 0,vi 0] 39,O.cells [vi ia1,vi ia2] 39],none)
def aaN:ry->JJ
 | .L0 ia0 ia1 ia2=>(0,[])
section
variable (x0 x1:Int) (n2:Nat) (f2:ah)
include x0 x1 n2 f2
def MA:T (bN JJ):=aS JJ pC u0 j5 [V.agg [vi x0,vi x1],V.sl n2 (aa b4 f2)]
def yJ (cx:List Cx):Lp JJ:=fb (eL (MA x0 x1 n2 f2) [])
def ZT:JJ->Lp JJ
 | (0,cx)=>yJ x0 x1 n2 f2 cx
 | (_,cx)=>yJ x0 x1 n2 f2 cx
def aho:LD JJ ry:=⟨aaN,ZT x0 x1 n2 f2,Tl x0 x1 n2 f2⟩
end
def xo (x0 x1:Int) (n2:Nat) (f2:ah):ry->RT ry
 | .L0 ia0 ia1 ia2=>.br (decide (ia0 < (↑n2:Int))) (.ob (decide (0<=ia0/\ia0 < (↑n2:Int))) (.next [some (some 0),some (some 1)] (ry.L0 (i64.wrap (ia0+1)) (min ia1 (ay (f2 ia0.toNat))) (max ia2 (ba (f2 ia0.toNat)))) [])) (.ret (V.agg [vi ia1,vi ia2]))
def HY (x0 x1:Int) (n2:Nat) (f2:ah):RT ry:=.asm (true=true->n2<=9223372036854775807) (.enter [some (some 1),some (some 0)] (ry.L0 (0) (x0) (x1)) [])
theorem TN (x0 x1:Int) (n2:Nat) (f2:ah):dR pC u0 (aho x0 x1 n2 f2) (MA x0 x1 n2 f2) (HY x0 x1 n2 f2) (xo x0 x1 n2 f2):=⟨⟨by kernel_rfl,by kernel_rfl⟩,fun s=>by cases s <;> exact ⟨by kernel_rfl,by kernel_rfl⟩⟩
def da (x0:Int) (n2:Nat) (f2:ah):Int:=YD (fun i=>ay (f2 i)) x0 n2
def db (x1:Int) (n2:Nat) (f2:ah):Int:=xb (fun i=>ba (f2 i)) x1 n2
theorem Of (x0 x1:Int) (n2:Nat) (f2:ah):aN (Ev (xo x0 x1 n2 f2)) (HY x0 x1 n2 f2) (.agg [.int .i64 (da x0 n2 f2),.int .i64 (db x1 n2 f2)]):=by
 refine bk fun hn=>aH ?_
 refine As hn (P:=fun x=>Ev (xo x0 x1 n2 f2) (.L0 x (YD (fun i=>ay (f2 i)) x0 x.toNat) (xb (fun i=>ba (f2 i)) x1 x.toNat)) (.agg [.int .i64 (da x0 n2 f2),.int .i64 (db x1 n2 f2)])) (fun i hlt nx=>?_) (Ev.of rfl (cd (evRet rfl)))
 rw [show (i64.wrap ((i:Int)+1)).toNat=i+1 by rw [jT hlt hn]; rfl] at nx
 exact Ev.of rfl (ck hlt (bZ hlt (aQ nx)))
theorem aca (x0 x1:Int) (n2:Nat) (f2:ah):aN (Ev (xo x0 x1 n2 f2)) (HY x0 x1 n2 f2) (.agg [.int .i64 (da x0 n2 (aa b4 f2)),.int .i64 (db x1 n2 (aa b4 f2))]):=Of x0 x1 n2 f2
def Xd:aB:=bI [.agg b4,.sl b4] (fun _=>True) fun
 | [.agg [.int _ x0,.int _ x1],.sl n2 f2]=>.agg [.int .i64 (da x0 n2 f2),.int .i64 (db x1 n2 f2)]
 | _=>.any
theorem aad:(vP Xd).Ok Tryz.prog 167:=bY uW Tryz.func167 (by kernel_rfl) fun ds hp=>jE (TN ..) (aca _ _ _ _)
def C6:bd:=(230,.con Zs)::(257,.con ZI)::(285,.con Y1)::(167,.con Xd)::pC
theorem Oi:aR Tryz.prog eqs its C6:=.con aav (.con acv (.con aeO (.con aad (uW))))
inductive mf where
 | L0 (ia0:Int)
 | L1 (ib0:Int) (nb1:Nat) (fb2:Nat->List V)
def Ts (n0:Nat) (f0:ah) (x2 x3 x4:Int):mf->bp × List O × Option Ex
 | .L0 ia0=>([(10,vi ia0),(9,V.ss 0 0 2 2),(0,V.sl n0 (aa ae f0)),(1,vi x2),(2,vi x3),(3,vi x4)],[O.cells [vi (i64.wrap (1000 * x2)),vi (i64.wrap (1000 * x3))] 3],none)
 | .L1 ib0 nb1 fb2=>([(10,vi ib0),(9,V.gs 0 nb1),(0,V.sl n0 (aa ae f0)),(1,vi x2),(2,vi x3),(3,vi x4)],[O.gl 1 nb1 (aa ae fb2) 3],none)
def ae5:mf->JJ
 | .L0 ia0=>(0,[])
 | .L1 ib0 nb1 fb2=>(0,[])
section
variable (n0:Nat) (f0:ah) (x2 x3 x4:Int)
include n0 f0 x2 x3 x4
def Kz:T (bN JJ):=RS JJ C6 u0 akz [V.sl n0 (aa ae f0),vi x2,vi x3,vi x4]
def zi (cx:List Cx):Lp JJ:=fb (eL (Kz n0 f0 x2 x3 x4) [])
def aer:JJ->Lp JJ
 | (0,cx)=>zi n0 f0 x2 x3 x4 cx
 | (_,cx)=>zi n0 f0 x2 x3 x4 cx
def ajF:LD JJ mf:=⟨ae5,aer n0 f0 x2 x3 x4,Ts n0 f0 x2 x3 x4⟩
def uI:mf->RT mf
 | .L0 ia0=>.asm (true=true->n0<=9223372036854775807) (.br (decide (ia0 < (↑n0:Int))) (.ob (decide (0<=ia0/\ia0 < (↑n0:Int))) (.obi (.obi (.obj (decide (i64.wrap (1000 * x2)<=i64.wrap (ay (f0 ia0.toNat) * x4))) (decide (0<=ia0/\ia0 < (↑n0:Int))) (.obi (.obi (.obi (.obi (.obi (.obi (.obi (.br (bif decide (i64.wrap (1000 * x2)<=i64.wrap (ay (f0 ia0.toNat) * x4)) then decide (i64.wrap (ay (f0 ia0.toNat) * x4)<=i64.wrap (1000 * x3)) else false) (.ob (decide (0<=ia0/\ia0 < (↑n0:Int))) (.obt (.obt (.next [some (some 2)] (mf.L1 (i64.wrap (ia0+1)) (3) (bA 2 (fun i=>List.take 1 (List.drop (i * 1) [vi (i64.wrap (1000 * x2)),vi (i64.wrap (1000 * x3))])) fun x=>[vi (i64.wrap (ay (f0 ia0.toNat) * x4))])) [⟨0,ae,3,bA 2 (fun i=>List.take 1 (List.drop (i * 1) [vi (i64.wrap (1000 * x2)),vi (i64.wrap (1000 * x3))])) fun x=>[vi (i64.wrap (ay (f0 ia0.toNat) * x4))],O9 rfl rfl⟩])))) (.next [some (some 0)] (mf.L0 (i64.wrap (ia0+1))) []))))))))))))) (.ret (V.sl 2 (bQ [vi (i64.wrap (1000 * x2)),vi (i64.wrap (1000 * x3))] 0 1))))
 | .L1 ib0 nb1 fb2=>.asm (true=true->n0<=9223372036854775807) (.br (decide (ib0 < (↑n0:Int))) (.ob (decide (0<=ib0/\ib0 < (↑n0:Int))) (.obi (.obi (.obj (decide (i64.wrap (1000 * x2)<=i64.wrap (ay (f0 ib0.toNat) * x4))) (decide (0<=ib0/\ib0 < (↑n0:Int))) (.obi (.obi (.obi (.obi (.obi (.obi (.obi (.br (bif decide (i64.wrap (1000 * x2)<=i64.wrap (ay (f0 ib0.toNat) * x4)) then decide (i64.wrap (ay (f0 ib0.toNat) * x4)<=i64.wrap (1000 * x3)) else false) (.ob (decide (0<=ib0/\ib0 < (↑n0:Int))) (.obt (.ob (decide (nb1<=nb1/\(nb1+1) * 8<=140737488355328) && !Nat.beq 8 0) (.next [some (some 2)] (mf.L1 (i64.wrap (ib0+1)) (nb1+1) (bA nb1 (aa ae fb2) fun x=>[vi (i64.wrap (ay (f0 ib0.toNat) * x4))])) [⟨0,ae,nb1+1,bA nb1 (aa ae fb2) fun x=>[vi (i64.wrap (ay (f0 ib0.toNat) * x4))],FE (eu rfl _ _) (yX rfl _ rfl)⟩])))) (.next [some (some 0)] (mf.L1 (i64.wrap (ib0+1)) (nb1) (aa ae fb2)) [⟨0,ae,nb1,aa ae fb2,eu rfl _ _⟩]))))))))))))) (.ob (nb1.ble nb1) (.ret (V.sl nb1 fun i=>[vi (ay (fb2 i))]))))
end
def MS (n0:Nat) (f0:ah) (x2 x3 x4:Int):RT mf:=.enter [some (some 0)] (mf.L0 (0)) []
theorem RN (n0:Nat) (f0:ah) (x2 x3 x4:Int):dR C6 u0 (ajF n0 f0 x2 x3 x4) (Kz n0 f0 x2 x3 x4) (MS n0 f0 x2 x3 x4) (uI n0 f0 x2 x3 x4):=⟨⟨by kernel_rfl,by kernel_rfl⟩,fun s=>by cases s <;> exact ⟨by kernel_rfl,by kernel_rfl⟩⟩
def N7 (p:Nat->Bool) (v:Nat->Int) (a b:Int):Nat->List Int
 | 0=>[a,b]
 | k+1=>bif p k then N7 p v a b k++[v k] else N7 p v a b k
def gz (L:List Int):Nat->List V:=fun i=>[vi (L.getD i 0)]
def A1 (f0:ah) (a b h:Int) (i:Nat):Bool:=bif decide (a<=i64.wrap (ay (f0 i) * h)) then decide (i64.wrap (ay (f0 i) * h)<=b) else false
def aO (n0:Nat) (f0:ah) (x2 x3 x4:Int):List Int:=N7 (A1 f0 (i64.wrap (1000 * x2)) (i64.wrap (1000 * x3)) x4) (fun i=>i64.wrap (ay (f0 i) * x4)) (i64.wrap (1000 * x2)) (i64.wrap (1000 * x3)) n0
theorem m6 (p:Nat->Bool) (v:Nat->Int) (a b:Int):∀ k,2<=(N7 p v a b k).length/\(N7 p v a b k).length<=k+2
 | 0=>⟨Nat.le_refl _,Nat.le_refl _⟩
 | k+1=>by
   have:=m6 p v a b k
   unfold N7
   cases p k with
   | true=>simp only [cond_true,List.length_append,List.length_cons,List.length_nil]; omega
   | false=>simp only [cond_false]; omega
theorem J4 {L:List Int} {x:Int} {n:Nat} {f:Nat->List V} (hn:n=L.length) (hf:∀ j,j < n->ao ae (f j)=gz L j):∀ j,j < n+1->ao ae (bA n (aa ae f) (fun _=>[vi x]) j)=gz (L++[x]) j:=fun j hj=>by
 unfold bA
 by_cases hjk:j < n
 ·rw [Ew hjk]; show ao _ (ao _ (f j))=_
  rw [dI,hf j hjk]
  unfold gz
  rw [List.getD_eq_getElem?_getD,List.getD_eq_getElem?_getD,List.getElem?_append_left (by omega)]
 ·have:j=n:=by omega
  subst this
  rw [Mu (Nat.le_refl _)]
  show [vi x]=_
  unfold gz
  rw [List.getD_eq_getElem?_getD,List.getElem?_append_right (by omega),hn,Nat.sub_self]; rfl
section
variable (n0:Nat) (f0:ah) (x2 x3 x4:Int) (hn:n0<=1000)
include hn
theorem Un:∀ k,k<=n0->∀ (n:Nat) (f:Nat->List V),n=(aO k f0 x2 x3 x4).length->(∀ j,j < n->ao ae (f j)=gz (aO k f0 x2 x3 x4) j)->Ev (uI n0 f0 x2 x3 x4) (.L1 (k:Int) n f) (.sl (aO n0 f0 x2 x3 x4).length (aa ae (gz (aO n0 f0 x2 x3 x4)))):=by
 refine dH fun k hk ih n f hl hf=>?_
 have hle:=(m6 (A1 f0 (i64.wrap (1000 * x2)) (i64.wrap (1000 * x3)) x4) (fun i=>i64.wrap (ay (f0 i) * x4)) (i64.wrap (1000 * x2)) (i64.wrap (1000 * x3)) k).2
 refine Ev.of rfl (bk fun _=>?_)
 by_cases hlt:k < n0
 ·have hw:i64.wrap ((k:Int)+1)=((k+1:Nat):Int):=by rw [wrapI (by omega) (by omega)]; omega
  have hb:decide (0<=(k:Int)/\(k:Int) < (n0:Int))=true:=dqt (by omega)
  refine fA (dqt (by omega)) (aM hb (evObi (evObi (evObj (fun _=>hb) ?_))))
  refine evObi (evObi (evObi (evObi (evObi (evObi (evObi ?_))))))
  rw [hw]
  refine evBr (fun h=>aM hb (af (aM ?_ (aQ ?_)))) (fun h=>aQ ?_)
  ·have hnk:n<=k+2:=by rw [hl]; exact hle
   simp only [Bool.and_eq_true]; exact ⟨dqt ⟨Nat.le_refl _,by omega⟩,rfl⟩
  ·have e:aO (k+1) f0 x2 x3 x4=aO k f0 x2 x3 x4++[i64.wrap (ay (f0 (k:Int).toNat) * x4)]:=by
    rw [Int.toNat_natCast] at h ⊢
    show (bif A1 f0 _ _ x4 k then _ else _)=_
    rw [show A1 f0 (i64.wrap (1000 * x2)) (i64.wrap (1000 * x3)) x4 k=true from h]; rfl
   refine ih hlt _ _ (by rw [e,hl]; simp) ?_
   rw [e]
   exact J4 hl hf
  ·have e:aO (k+1) f0 x2 x3 x4=aO k f0 x2 x3 x4:=by
    rw [Int.toNat_natCast] at h
    show (bif A1 f0 _ _ x4 k then _ else _)=_
    rw [show A1 f0 (i64.wrap (1000 * x2)) (i64.wrap (1000 * x3)) x4 k=false from h]; rfl
   refine ih hlt _ _ (by rw [e,hl]) ?_
   rw [e]
   exact fun j hj=>by show ao _ (ao _ (f j))=_; rw [dI]; exact hf j hj
 ·have e:k=n0:=by omega
  subst e
  refine ft (jx (by omega)) (aM (Nat.ble_eq_true_of_le (Nat.le_refl _)) (evRet ?_))
  rw [hl]
  exact xM fun i hi=>by show b9 (ao ae (f i))=b9 (ao ae (gz _ i)); rw [hf i (by omega)]; rfl
theorem UL:∀ k,k<=n0->aO k f0 x2 x3 x4=[i64.wrap (1000 * x2),i64.wrap (1000 * x3)]->Ev (uI n0 f0 x2 x3 x4) (.L0 (k:Int)) (.sl (aO n0 f0 x2 x3 x4).length (aa ae (gz (aO n0 f0 x2 x3 x4)))):=by
 refine dH fun k hk ih hl=>?_
 refine Ev.of rfl (bk fun _=>?_)
 by_cases hlt:k < n0
 ·have hw:i64.wrap ((k:Int)+1)=((k+1:Nat):Int):=by rw [wrapI (by omega) (by omega)]; omega
  have hb:decide (0<=(k:Int)/\(k:Int) < (n0:Int))=true:=dqt (by omega)
  refine fA (dqt (by omega)) (aM hb (evObi (evObi (evObj (fun _=>hb) ?_))))
  refine evObi (evObi (evObi (evObi (evObi (evObi (evObi ?_))))))
  rw [hw]
  refine evBr (fun h=>aM hb (af (af (aQ ?_)))) (fun h=>aQ ?_)
  ·have e:aO (k+1) f0 x2 x3 x4=[i64.wrap (1000 * x2),i64.wrap (1000 * x3)]++[i64.wrap (ay (f0 (k:Int).toNat) * x4)]:=by
    rw [Int.toNat_natCast] at h ⊢
    show (bif A1 f0 _ _ x4 k then aO k f0 x2 x3 x4++_ else _)=_
    rw [show A1 f0 (i64.wrap (1000 * x2)) (i64.wrap (1000 * x3)) x4 k=true from h,hl]; rfl
   refine Un n0 f0 x2 x3 x4 hn (k+1) hlt _ _ (by rw [e]; rfl) ?_
   rw [e]
   intro j hj
   match j,hj with
   | 0,_=>rfl
   | 1,_=>rfl
   | 2,_=>rfl
  ·have e:aO (k+1) f0 x2 x3 x4=aO k f0 x2 x3 x4:=by
    rw [Int.toNat_natCast] at h
    show (bif A1 f0 _ _ x4 k then _ else _)=_
    rw [show A1 f0 (i64.wrap (1000 * x2)) (i64.wrap (1000 * x3)) x4 k=false from h]; rfl
   exact ih hlt (e.trans hl)
 ·have e:k=n0:=by omega
  subst e
  refine ft (jx (by omega)) (evRet ?_)
  rw [hl]
  exact xM fun i hi=>by
   have hi:i < 2:=hi
   match i,hi with
   | 0,_=>rfl
   | 1,_=>rfl
theorem NC:aN (Ev (uI n0 f0 x2 x3 x4)) (MS n0 f0 x2 x3 x4) (.sl (aO n0 f0 x2 x3 x4).length (aa ae (gz (aO n0 f0 x2 x3 x4)))):=aH (UL n0 f0 x2 x3 x4 hn 0 (Nat.zero_le _) rfl)
end
def D6:List Ty:=[.sl ae,tI,tI,tI]
def ahT:List V->Prop
 | [.sl n0 _,.int _ _,.int _ _,.int _ _]=>n0<=1000
 | _=>False
def Xu:List V->V
 | [.sl n0 f0,.int _ x2,.int _ x3,.int _ x4]=>.sl (aO n0 f0 x2 x3 x4).length (aa ae (gz (aO n0 f0 x2 x3 x4)))
 | _=>.any
def Iz:aB:=bI D6 ahT Xu
theorem aa9 (n0:Nat) (f0:ah) (x2 x3 x4:Int) (hn:n0<=1000):aN (Ev (uI n0 f0 x2 x3 x4)) (MS n0 f0 x2 x3 x4) (.sl (aO n0 (aa ae f0) x2 x3 x4).length (aa ae (gz (aO n0 (aa ae f0) x2 x3 x4)))):=NC n0 f0 x2 x3 x4 hn
theorem ag9 (L:List Int) (i:Nat):kS 1 (aa ae (gz L) i)=true/\(b9 (aa ae (gz L) i)).all bh=true/\(aa ae (gz L) i).all V.fc=true:=by
 refine ⟨rfl,?_,rfl⟩
 show (b9 [vi _]).all bh=true
 simp only [b9,cn,List.all_cons,bh,List.all_nil,Bool.and_self]
theorem Ij (ds:List V):dD (Xu (ao D6 ds)):=by
 show dD (V.sl _ (aa ae _))
 simp only [dD]
 exact fun i hi=>kJ _
theorem TC:∀ ds d p r,Iz ds=some (d,p,r)->d.1=d.2->p->∀ w0 lh args,bf w0 lh Nu.nil ds args->∃ x new,vr w0 (lh++new) Nu.nil r x:=D5 (fun ds hty hp w0 lh args ha=>by
 have hp:au (hdV ds)<=1000:=hp
 have hl:=(m6 (A1 (aa ae (bj (hdV ds))) (i64.wrap (1000 * ba ds)) (i64.wrap (1000 * cQ ds)) (cM ds)) (fun i=>i64.wrap (ay (aa ae (bj (hdV ds)) i) * cM ds)) (i64.wrap (1000 * ba ds)) (i64.wrap (1000 * cQ ds)) (au (hdV ds))).2
 exact Cq (e:=1) (n:=(aO (au (hdV ds)) (aa ae (bj (hdV ds))) (ba ds) (cQ ds) (cM ds)).length) (Nat.le_trans hl (by omega)) fun i hi=>ag9 _ i) rfl
theorem aeG:(vZ Iz).Ok Tryz.prog 259:=ahd Oi Tryz.func259 (by kernel_rfl) (fun ds _=>Ij ds) fun ds hp=>jE (RN ..) (aa9 _ _ _ _ _ hp)
def Eo:bd:=(259,.conZ Iz TC)::C6
theorem BS:aR Tryz.prog eqs its Eo:=.conZ aeG (Oi)
section
variable (n0:Nat) (f0:ah) (x2:Int)
include n0 f0 x2
def Zw:RT Empty:=.obp (n0<=(1000:Nat)) (.obt (.asm (true=true->n0<=9223372036854775807) (.ret (vi (max 0 (min (i64.wrap (gW n0 (aa ae f0) (i64.wrap (x2+1)) - 1)) (i64.wrap ((↑n0:Int) - 2))))))))
theorem We:dh dm (aS JJ Eo u0 tE [V.sl n0 (aa ae f0),vi x2]) (Zw n0 f0 x2):=⟨by kernel_rfl,by kernel_rfl⟩
def aL:Int:=max 0 (min (i64.wrap (gW n0 (aa ae f0) (i64.wrap (x2+1)) - 1)) (i64.wrap ((↑n0:Int) - 2)))
def JQ:V:=.int i64 (aL n0 f0 x2)
theorem adw (hp:n0<=1000):aN cr (Zw n0 f0 x2) (JQ n0 f0 x2):=aC (by first | assumption | (exact hp)) (af (evAsm (fun a0=>evRet (by unfold JQ aL; rfl))))
end
def Yy:aB:=bI [.sl ae,tI] (fun
 | [.sl n0 f0,.int _ x2]=>n0<=1000
 | _=>False) fun
 | [.sl n0 f0,.int _ x2]=>JQ n0 f0 x2
 | _=>.any
theorem aaA:(vP Yy).Ok Tryz.prog 223:=bY BS Tryz.func223 (by kernel_rfl) fun ds hp=>dG (We ..) (adw _ _ _ hp)
def Bm (x0:Int) (n6:Nat) (f6:ah) (n12:Nat) (f12:ah) (x15:Int):Prop:=(0<=x0/\x0 < (n6:Int))/\(0<=x15/\x15+1 < (au (hdV (f6 x0.toNat)):Int)/\x15+1 < (n12:Int)/\n12<=1000)/\i64.wrap (ay (f12 (x15+1).toNat) - ay (f12 x15.toNat)) ≠ 0
theorem Bm.w {x0:Int} {n6:Nat} {f6:Nat->List V} {n12:Nat} {f12:Nat->List V} {x15:Int} (h:Bm x0 n6 f6 n12 f12 x15):i64.wrap (x15+1)=x15+1:=by
 obtain ⟨_,h2,_⟩:=h
 exact wrapI (by omega) (by omega)
section
variable (x0:Int)
include x0
def Xe (s1:ByteArray) (n2:Nat) (f2:ah) (n4:Nat) (f4:ah) (n6:Nat) (f6:ah) (x8 x9:Int) (n10:Nat) (f10:ah) (n12:Nat) (f12:ah) (x14 x15 x16:Int):RT Empty:=.ob (decide (0<=x0/\x0 < (↑n6:Int))) (.ob (decide (0<=x15/\x15 < (↑(au (hdV (f6 x0.toNat))):Int))) (.obc (.obt (.ob (decide (0<=i64.wrap (x15+1)/\i64.wrap (x15+1) < (↑(au (hdV (f6 x0.toNat))):Int))) (.obc (.obt (.ob (decide (0<=x15/\x15 < (↑n12:Int))) (.ob (decide (0<=i64.wrap (x15+1)/\i64.wrap (x15+1) < (↑n12:Int))) (.obp (i64.wrap (ay (f12 (i64.wrap (x15+(1:Int))).toNat) - ay (f12 x15.toNat))=(0:Int)->False) (.obt (.ret (V.agg [vi (jM (ay (bj (hdV (f6 x0.toNat)) x15.toNat)) (ay (bj (hdV (f6 x0.toNat)) (i64.wrap (x15+1)).toNat)) (ay (f12 x15.toNat)) (ay (f12 (i64.wrap (x15+1)).toNat)) x16),vi (jN (ay (bj (hdV (f6 x0.toNat)) x15.toNat)) (ay (bj (hdV (f6 x0.toNat)) (i64.wrap (x15+1)).toNat)) (ay (f12 x15.toNat)) (ay (f12 (i64.wrap (x15+1)).toNat)) x16)]))))))))))))
theorem TF (s1:ByteArray) (n2:Nat) (f2:ah) (n4:Nat) (f4:ah) (n6:Nat) (f6:ah) (x8 x9:Int) (n10:Nat) (f10:ah) (n12:Nat) (f12:ah) (x14 x15 x16:Int):dh dm (aS JJ Eo u0 o3 [vi x0,V.pd [V.str s1,V.sl n2 (aa ae f2),V.sl n4 (aa ae f4),V.sl n6 (aa [Ty.sl ae] f6),vi x8,vi x9,V.sl n10 (aa ae f10),V.sl n12 (aa ae f12),vi x14],V.pd [vi x15],V.pd [vi x16]]) (Xe x0 s1 n2 f2 n4 f4 n6 f6 x8 x9 n10 f10 n12 f12 x14 x15 x16):=⟨by kernel_rfl,by kernel_rfl⟩
def jL (f6 f12:ah) (x15 x16:Int):Int:=jM (ay (bj (hdV (f6 x0.toNat)) x15.toNat)) (ay (bj (hdV (f6 x0.toNat)) (i64.wrap (x15+1)).toNat)) (ay (f12 x15.toNat)) (ay (f12 (i64.wrap (x15+1)).toNat)) x16
def jU (f6 f12:ah) (x15 x16:Int):Int:=jN (ay (bj (hdV (f6 x0.toNat)) x15.toNat)) (ay (bj (hdV (f6 x0.toNat)) (i64.wrap (x15+1)).toNat)) (ay (f12 x15.toNat)) (ay (f12 (i64.wrap (x15+1)).toNat)) x16
def Pu (s1:ByteArray) (n2:Nat) (f2:ah) (n4:Nat) (f4:ah) (n6:Nat) (f6:ah) (x8 x9:Int) (n10:Nat) (f10:ah) (n12:Nat) (f12:ah) (x14 x15 x16:Int):V:=.agg [.int i64 (jL x0 f6 f12 x15 x16),.int i64 (jU x0 f6 f12 x15 x16)]
theorem adO (s1:ByteArray) (n2:Nat) (f2:ah) (n4:Nat) (f4:ah) (n6:Nat) (f6:ah) (x8 x9:Int) (n10:Nat) (f10:ah) (n12:Nat) (f12:ah) (x14 x15 x16:Int) (hp:Bm x0 n6 f6 n12 f12 x15):aN cr (Xe x0 s1 n2 f2 n4 f4 n6 f6 x8 x9 n10 f10 n12 f12 x14 x15 x16) (Pu x0 s1 n2 f2 n4 f4 n6 f6 x8 x9 n10 f10 n12 f12 x14 x15 x16):=aM (by first | assumption | ((try rw [hp.w]); exact dqt (by obtain ⟨h1,h2,h3⟩:=hp; omega))) (aM (by first | assumption | ((try rw [hp.w]); exact dqt (by obtain ⟨h1,h2,h3⟩:=hp; omega))) (av (af (aM (by first | assumption | ((try rw [hp.w]); exact dqt (by obtain ⟨h1,h2,h3⟩:=hp; omega))) (av (af (aM (by first | assumption | ((try rw [hp.w]); exact dqt (by obtain ⟨h1,h2,h3⟩:=hp; omega))) (aM (by first | assumption | ((try rw [hp.w]); exact dqt (by obtain ⟨h1,h2,h3⟩:=hp; omega))) (aC (by first | assumption | ((rw [hp.w]; exact hp.2.2))) (af (evRet (by unfold Pu jL jU; rfl))))))))))))
end
def YY:aB:=bI [tI,.pd [.str,.sl ae,.sl ae,.sl [.sl ae],tI,tI,.sl ae,.sl ae,tI],.pd ae,.pd ae] (fun
 | [.int _ x0,.pd [.str s1,.sl n2 f2,.sl n4 f4,.sl n6 f6,.int _ x8,.int _ x9,.sl n10 f10,.sl n12 f12,.int _ x14],.pd [.int _ x15],.pd [.int _ x16]]=>Bm x0 n6 f6 n12 f12 x15
 | _=>False) fun
 | [.int _ x0,.pd [.str s1,.sl n2 f2,.sl n4 f4,.sl n6 f6,.int _ x8,.int _ x9,.sl n10 f10,.sl n12 f12,.int _ x14],.pd [.int _ x15],.pd [.int _ x16]]=>Pu x0 s1 n2 f2 n4 f4 n6 f6 x8 x9 n10 f10 n12 f12 x14 x15 x16
 | _=>.any
theorem aby:(vP YY).Ok Tryz.prog 224:=bY BS Tryz.func224 (by kernel_rfl) fun ds hp=>dG (TF ..) (adO _ _ _ _ _ _ _ _ _ _ _ _ _ _ _ _ _ hp)
def HX:bd:=(223,.con Yy)::(224,.con YY)::Eo
theorem Ng:aR Tryz.prog eqs its HX:=.con aaA (.con aby (BS))
def pX (n5:Nat) (f5:ah) (n9:Nat) (f9:ah) (n11:Nat) (f11:ah):Prop:=(2<=n9/\n9<=1000)/\(2<=n11/\n11<=1000)/\(n9<=n5)/\(∀ i:Nat,i < n5->n11<=au (hdV (f5 i)))/\(∀ i:Nat,i+1 < n9->i64.wrap (ay (f9 (i+1)) - ay (f9 i)) ≠ 0)/\(∀ i:Nat,i+1 < n11->i64.wrap (ay (f11 (i+1)) - ay (f11 i)) ≠ 0)
section
variable {n5:Nat} {f5:Nat->List V} {n9:Nat} {f9:Nat->List V} {n11:Nat} {f11:Nat->List V} (h:pX n5 f5 n9 f9 n11 f11)
include n5 f5 n9 f9 n11 f11 h
theorem pX.a:2<=n9/\n9<=1000:=h.1
theorem pX.b:2<=n11/\n11<=1000:=h.2.1
theorem pX.c:n9<=n5:=h.2.2.1
theorem pX.d:∀ i:Nat,i < n5->n11<=au (hdV (f5 i)):=h.2.2.2.1
theorem pX.e:∀ i:Nat,i+1 < n9->i64.wrap (ay (f9 (i+1)) - ay (f9 i)) ≠ 0:=h.2.2.2.2.1
theorem pX.g:∀ i:Nat,i+1 < n11->i64.wrap (ay (f11 (i+1)) - ay (f11 i)) ≠ 0:=h.2.2.2.2.2
end
theorem od {n:Nat} (f:Nat->List V) (x:Int) (h:2<=n/\n<=1000):0<=aL n f x/\aL n f x+1 < (n:Int):=by
 unfold aL
 rw [wrapI (x:=(n:Int) - 2) (by omega) (by omega)]
 generalize i64.wrap _=q
 omega
section
variable {n5:Nat} {f5:Nat->List V} {n9:Nat} {f9:Nat->List V} {n11:Nat} {f11:Nat->List V} (hp:pX n5 f5 n9 f9 n11 f11) (x14 x15:Int)
include hp
theorem vwW:i64.wrap (aL n9 (aa ae f9) x14+1)=aL n9 (aa ae f9) x14+1:=by
 have:=od (aa ae f9) x14 hp.a
 have:=hp.a
 exact wrapI (by omega) (by omega)
theorem afY (y:Int) (h:0<=y/\y < (n9:Int)):Bm y n5 f5 n11 f11 (aL n11 (aa ae f11) x15):=by
 have q:=od (aa ae f11) x15 hp.b
 have hb:=hp.b
 have hc:=hp.c
 have hd:=hp.d y.toNat (by omega)
 have hg:=hp.g (aL n11 (aa ae f11) x15).toNat (by omega)
 refine ⟨by omega,⟨q.1,by omega,q.2,by omega⟩,?_⟩
 rw [show (aL n11 (aa ae f11) x15+1).toNat=(aL n11 (aa ae f11) x15).toNat+1 by omega]
 exact hg
theorem wq:Bm (aL n9 (aa ae f9) x14) n5 f5 n11 f11 (aL n11 (aa ae f11) x15):=by
 have p:=od (aa ae f9) x14 hp.a
 exact afY hp x15 _ (by omega)
theorem wD:Bm (i64.wrap (aL n9 (aa ae f9) x14+1)) n5 f5 n11 f11 (aL n11 (aa ae f11) x15):=by
 have p:=od (aa ae f9) x14 hp.a
 rw [vwW hp]
 exact afY hp x15 _ (by omega)
theorem ahM:decide (0<=aL n9 (aa ae f9) x14/\aL n9 (aa ae f9) x14 < (n9:Int))=true:=by
 have p:=od (aa ae f9) x14 hp.a
 exact dqt (by omega)
theorem ahz:decide (0<=i64.wrap (aL n9 (aa ae f9) x14+1)/\i64.wrap (aL n9 (aa ae f9) x14+1) < (n9:Int))=true:=by
 have p:=od (aa ae f9) x14 hp.a
 rw [vwW hp]
 exact dqt (by omega)
theorem vw9:i64.wrap (ay (f9 (i64.wrap (aL n9 (aa ae f9) x14+1)).toNat) - ay (f9 (aL n9 (aa ae f9) x14).toNat)) ≠ 0:=by
 have p:=od (aa ae f9) x14 hp.a
 rw [vwW hp,show (aL n9 (aa ae f9) x14+1).toNat=(aL n9 (aa ae f9) x14).toNat+1 by omega]
 exact hp.e _ (by omega)
theorem HO:(1<=n9/\n9<=1000)/\1<=n11/\n11<=1000:=by
 have:=hp.a
 have:=hp.b
 omega
end
def Zz (s0:ByteArray) (n1:Nat) (f1:ah) (n3:Nat) (f3:ah) (n5:Nat) (f5:ah) (x7 x8:Int) (n9:Nat) (f9:ah) (n11:Nat) (f11:ah) (x13 x14 x15:Int):RT Empty:=.obp (((1:Nat)<=n9/\n9<=(1000:Nat))/\(1:Nat)<=n11/\n11<=(1000:Nat)) (.obt (.br (!bc n9 (aa ae f9) n11 (aa ae f11) x14 x15) (.ret (V.agg [vi 0,vi x7])) (.obp (n9<=(1000:Nat)) (.obt (.obp (n11<=(1000:Nat)) (.obt (.obp (((0:Int)<=aL n9 (aa ae f9) x14/\aL n9 (aa ae f9) x14 < (↑n5:Int))/\((0:Int)<=aL n11 (aa ae f11) x15/\aL n11 (aa ae f11) x15+(1:Int) < (↑(au (hdV (f5 (aL n9 (aa ae f9) x14).toNat))):Int)/\aL n11 (aa ae f11) x15+(1:Int) < (↑n11:Int)/\n11<=(1000:Nat))/\i64.wrap (ay (f11 (aL n11 (aa ae f11) x15+(1:Int)).toNat) - ay (f11 (aL n11 (aa ae f11) x15).toNat)) ≠ (0:Int)) (.obt (.obp (((0:Int)<=i64.wrap (aL n9 (aa ae f9) x14+(1:Int))/\i64.wrap (aL n9 (aa ae f9) x14+(1:Int)) < (↑n5:Int))/\((0:Int)<=aL n11 (aa ae f11) x15/\aL n11 (aa ae f11) x15+(1:Int) < (↑(au (hdV (f5 (i64.wrap (aL n9 (aa ae f9) x14+(1:Int))).toNat))):Int)/\aL n11 (aa ae f11) x15+(1:Int) < (↑n11:Int)/\n11<=(1000:Nat))/\i64.wrap (ay (f11 (aL n11 (aa ae f11) x15+(1:Int)).toNat) - ay (f11 (aL n11 (aa ae f11) x15).toNat)) ≠ (0:Int)) (.obt (.ob (decide (0<=aL n9 (aa ae f9) x14/\aL n9 (aa ae f9) x14 < (↑n9:Int))) (.ob (decide (0<=i64.wrap (aL n9 (aa ae f9) x14+1)/\i64.wrap (aL n9 (aa ae f9) x14+1) < (↑n9:Int))) (.obp (i64.wrap (ay (f9 (i64.wrap (aL n9 (aa ae f9) x14+(1:Int))).toNat) - ay (f9 (aL n9 (aa ae f9) x14).toNat))=(0:Int)->False) (.obt (.ret (V.agg [vi (jM (jL (aL n9 (aa ae f9) x14) (aa [Ty.sl ae] f5) (aa ae f11) (aL n11 (aa ae f11) x15) x15) (jL (i64.wrap (aL n9 (aa ae f9) x14+1)) (aa [Ty.sl ae] f5) (aa ae f11) (aL n11 (aa ae f11) x15) x15) (ay (f9 (aL n9 (aa ae f9) x14).toNat)) (ay (f9 (i64.wrap (aL n9 (aa ae f9) x14+1)).toNat)) x14),vi (jN (jU (aL n9 (aa ae f9) x14) (aa [Ty.sl ae] f5) (aa ae f11) (aL n11 (aa ae f11) x15) x15) (jU (i64.wrap (aL n9 (aa ae f9) x14+1)) (aa [Ty.sl ae] f5) (aa ae f11) (aL n11 (aa ae f11) x15) x15) (ay (f9 (aL n9 (aa ae f9) x14).toNat)) (ay (f9 (i64.wrap (aL n9 (aa ae f9) x14+1)).toNat)) x14)]))))))))))))))))
theorem RY (s0:ByteArray) (n1:Nat) (f1:ah) (n3:Nat) (f3:ah) (n5:Nat) (f5:ah) (x7 x8:Int) (n9:Nat) (f9:ah) (n11:Nat) (f11:ah) (x13 x14 x15:Int):dh dm (aS JJ HX u0 rW [V.agg [V.str s0,V.sl n1 (aa ae f1),V.sl n3 (aa ae f3),V.sl n5 (aa [Ty.sl ae] f5),vi x7,vi x8,V.sl n9 (aa ae f9),V.sl n11 (aa ae f11),vi x13],vi x14,vi x15]) (Zz s0 n1 f1 n3 f3 n5 f5 x7 x8 n9 f9 n11 f11 x13 x14 x15):=⟨by kernel_rfl,by kernel_rfl⟩
def aY (f5:ah) (n9:Nat) (f9:ah) (n11:Nat) (f11:ah) (x14 x15:Int):Int:=bif !bc n9 (aa ae f9) n11 (aa ae f11) x14 x15 then 0 else jM (jL (aL n9 (aa ae f9) x14) (aa [Ty.sl ae] f5) (aa ae f11) (aL n11 (aa ae f11) x15) x15) (jL (i64.wrap (aL n9 (aa ae f9) x14+1)) (aa [Ty.sl ae] f5) (aa ae f11) (aL n11 (aa ae f11) x15) x15) (ay (f9 (aL n9 (aa ae f9) x14).toNat)) (ay (f9 (i64.wrap (aL n9 (aa ae f9) x14+1)).toNat)) x14
def aZ (f5:ah) (x7:Int) (n9:Nat) (f9:ah) (n11:Nat) (f11:ah) (x14 x15:Int):Int:=bif !bc n9 (aa ae f9) n11 (aa ae f11) x14 x15 then x7 else jN (jU (aL n9 (aa ae f9) x14) (aa [Ty.sl ae] f5) (aa ae f11) (aL n11 (aa ae f11) x15) x15) (jU (i64.wrap (aL n9 (aa ae f9) x14+1)) (aa [Ty.sl ae] f5) (aa ae f11) (aL n11 (aa ae f11) x15) x15) (ay (f9 (aL n9 (aa ae f9) x14).toNat)) (ay (f9 (i64.wrap (aL n9 (aa ae f9) x14+1)).toNat)) x14
def Dk (s0:ByteArray) (n1:Nat) (f1:ah) (n3:Nat) (f3:ah) (n5:Nat) (f5:ah) (x7 x8:Int) (n9:Nat) (f9:ah) (n11:Nat) (f11:ah) (x13 x14 x15:Int):V:=.agg [.int i64 (aY f5 n9 f9 n11 f11 x14 x15),.int i64 (aZ f5 x7 n9 f9 n11 f11 x14 x15)]
theorem aeR (s0:ByteArray) (n1:Nat) (f1:ah) (n3:Nat) (f3:ah) (n5:Nat) (f5:ah) (x7 x8:Int) (n9:Nat) (f9:ah) (n11:Nat) (f11:ah) (x13 x14 x15:Int) (hp:pX n5 f5 n9 f9 n11 f11):aN cr (Zz s0 n1 f1 n3 f3 n5 f5 x7 x8 n9 f9 n11 f11 x13 x14 x15) (Dk s0 n1 f1 n3 f3 n5 f5 x7 x8 n9 f9 n11 f11 x13 x14 x15):=aC (by first | assumption | (first | exact hp.a.2 | exact hp.b.2 | exact HO hp | exact vw9 hp x14 | exact wq hp x14 x15 | exact wD hp x14 x15)) (af (evBr (fun h0=>evRet (by unfold Dk aY aZ; try rw [h0]; rfl)) (fun h0=>aC (by first | assumption | (first | exact hp.a.2 | exact hp.b.2 | exact HO hp | exact vw9 hp x14 | exact wq hp x14 x15 | exact wD hp x14 x15)) (af (aC (by first | assumption | (first | exact hp.a.2 | exact hp.b.2 | exact HO hp | exact vw9 hp x14 | exact wq hp x14 x15 | exact wD hp x14 x15)) (af (aC (by first | assumption | (first | exact hp.a.2 | exact hp.b.2 | exact HO hp | exact vw9 hp x14 | exact wq hp x14 x15 | exact wD hp x14 x15)) (af (aC (by first | assumption | (first | exact hp.a.2 | exact hp.b.2 | exact HO hp | exact vw9 hp x14 | exact wq hp x14 x15 | exact wD hp x14 x15)) (af (aM (by first | assumption | (first | exact ahM hp x14 | exact ahz hp x14)) (aM (by first | assumption | (first | exact ahM hp x14 | exact ahz hp x14)) (aC (by first | assumption | (first | exact hp.a.2 | exact hp.b.2 | exact HO hp | exact vw9 hp x14 | exact wq hp x14 x15 | exact wD hp x14 x15)) (af (evRet (by unfold Dk aY aZ; try rw [h0]; rfl))))))))))))))))
def Yc:aB:=bI [.agg [.str,.sl ae,.sl ae,.sl [.sl ae],tI,tI,.sl ae,.sl ae,tI],tI,tI] (fun
 | [.agg [.str s0,.sl n1 f1,.sl n3 f3,.sl n5 f5,.int _ x7,.int _ x8,.sl n9 f9,.sl n11 f11,.int _ x13],.int _ x14,.int _ x15]=>pX n5 f5 n9 f9 n11 f11
 | _=>False) fun
 | [.agg [.str s0,.sl n1 f1,.sl n3 f3,.sl n5 f5,.int _ x7,.int _ x8,.sl n9 f9,.sl n11 f11,.int _ x13],.int _ x14,.int _ x15]=>Dk s0 n1 f1 n3 f3 n5 f5 x7 x8 n9 f9 n11 f11 x13 x14 x15
 | _=>.any
theorem aas:(vP Yc).Ok Tryz.prog 168:=bY Ng Tryz.func168 (by kernel_rfl) fun ds hp=>dG (RY ..) (aeR _ _ _ _ _ _ _ _ _ _ _ _ _ _ _ _ hp)
def uQ:bd:=(169,.inl Zg u0)::(168,.con Yc)::HX
theorem N9:aR Tryz.prog eqs its uQ:=fU Tryz.func169 (by kernel_rfl) (.con aas (Ng))
inductive dV where
 | L0 (ia0:Int) (na1:Nat) (ia2 ia3:Int) (na4:Nat)
 | L2 (ic0:Int) (nc1:Nat) (ic2 ic3:Int)
 | L4 (ie0:Int) (ne1:Nat) (ie2 ie3:Int) (ne4:Nat) (ie5:Int) (ne6:Nat) (ie7 ie8:Int)
 | L5 (if0:Int) (nf1:Nat) (if2 if3 if4:Int) (nf5:Nat) (if6 if7 if8:Int)
section
variable (s0:ByteArray) (n1:Nat) (f1:ah) (n3:Nat) (f3:ah) (n5:Nat) (f5:ah) (x7 x8:Int) (n9:Nat) (f9:ah) (n11:Nat) (f11:ah) (x13 x14 x15 x16 x17:Int)
include s0 n1 f1 n3 f3 n5 f5 x7 x8 n9 f9 n11 f11 x13 x14 x15 x16 x17
def yz (l:List O):List O:=O.cells [V.str s0,V.sl n1 (aa ae f1),V.sl n3 (aa ae f3),V.sl n5 (aa [Ty.sl ae] f5),vi x7,vi x8,V.sl n9 (aa ae f9),V.sl n11 (aa ae f11),vi x13] 161::O.cells [vi x14,vi x15,vi x16,vi x17] 55::O.cells [vi 0,vi 0] 39::O.cells [vi (i64.wrap (1000 * x16))] 3::O.cells [vi (i64.wrap (1000 * x17))] 3::O.cells [vi (aY (aa [Ty.sl ae] f5) n9 (aa ae f9) n11 (aa ae f11) (i64.wrap (1000 * x14)) (i64.wrap (1000 * x17))),vi (aZ (aa [Ty.sl ae] f5) x7 n9 (aa ae f9) n11 (aa ae f11) (i64.wrap (1000 * x14)) (i64.wrap (1000 * x17))),vi (aY (aa [Ty.sl ae] f5) n9 (aa ae f9) n11 (aa ae f11) (i64.wrap (1000 * x15)) (i64.wrap (1000 * x16))),vi (aZ (aa [Ty.sl ae] f5) x7 n9 (aa ae f9) n11 (aa ae f11) (i64.wrap (1000 * x15)) (i64.wrap (1000 * x16))),vi (aY (aa [Ty.sl ae] f5) n9 (aa ae f9) n11 (aa ae f11) (i64.wrap (1000 * x15)) (i64.wrap (1000 * x17))),vi (aZ (aa [Ty.sl ae] f5) x7 n9 (aa ae f9) n11 (aa ae f11) (i64.wrap (1000 * x15)) (i64.wrap (1000 * x17)))] 39::l
def se:dV->bp × List O × Option Ex
 | .L0 ia0 na1 ia2 ia3 na4=>([(19,vi ia0),(18,vi (↑n11:Int)),(17,V.sl n11 (aa ae f11)),(16,V.kb false),(15,V.kb false),(14,V.kb true),(13,vi (i64.wrap (1000 * x17))),(12,V.yl na1),(11,V.kb false),(10,V.kb false),(9,V.kb true),(8,vi (i64.wrap (1000 * x16))),(7,V.yl na1),(0,V.yl na1),(1,V.pl 12 0),(2,V.pl 13 0),(3,V.pl 11 0)],yz s0 n1 f1 n3 f3 n5 f5 x7 x8 n9 f9 n11 f11 x13 x14 x15 x16 x17 [O.cells [vi ia2,vi ia3] 39,O.cells [V.sl n9 (aa ae f9)] 32,O.cells [vi (i64.wrap (1000 * x14))] 3,O.cells [vi (i64.wrap (1000 * x15))] 3,O.cells [vi (i64.wrap (1000 * x14))] 3,O.cells [V.sl n11 (aa ae f11)] 32,O.cells [vi (i64.wrap (1000 * x16))] 3,O.cells [vi (i64.wrap (1000 * x17))] 3],none)
 | .L2 ic0 nc1 ic2 ic3=>([(19,vi ic0),(18,vi (↑n9:Int)),(17,V.sl n9 (aa ae f9)),(16,V.kb false),(15,V.kb false),(14,V.kb true),(13,vi (i64.wrap (1000 * x15))),(12,V.yl nc1),(11,V.kb false),(10,V.kb false),(9,V.kb true),(8,vi (i64.wrap (1000 * x14))),(7,V.yl nc1),(0,V.yl nc1),(1,V.pl 8 0),(2,V.pl 9 0),(3,V.pl 7 0)],yz s0 n1 f1 n3 f3 n5 f5 x7 x8 n9 f9 n11 f11 x13 x14 x15 x16 x17 [O.cells [vi ic2,vi ic3] 39,O.cells [V.sl n9 (aa ae f9)] 32,O.cells [vi (i64.wrap (1000 * x14))] 3,O.cells [vi (i64.wrap (1000 * x15))] 3],none)
 | .L4 ie0 ne1 ie2 ie3 ne4 ie5 ne6 ie7 ie8=>([(19,vi ie0),(18,vi (↑n11:Int)),(17,V.sl n11 (aa ae f11)),(16,V.kb false),(15,V.kb false),(14,V.kb true),(13,vi (i64.wrap (1000 * x17))),(12,V.yl ne1),(11,V.kb false),(10,V.kb false),(9,V.kb true),(8,vi (i64.wrap (1000 * x16))),(7,V.yl ne1),(0,V.yl ne1),(1,V.pl 16 0),(2,V.pl 17 0),(3,V.pl 15 0)],yz s0 n1 f1 n3 f3 n5 f5 x7 x8 n9 f9 n11 f11 x13 x14 x15 x16 x17 [O.cells [vi ie2,vi ie3] 39,O.cells [V.sl n9 (aa ae f9)] 32,O.cells [vi (i64.wrap (1000 * x14))] 3,O.cells [vi (i64.wrap (1000 * x15))] 3,O.cells [vi (i64.wrap (1000 * x14))] 3,O.cells [V.sl n11 (aa ae f11)] 32,O.cells [vi (i64.wrap (1000 * x16))] 3,O.cells [vi (i64.wrap (1000 * x17))] 3,O.cells [vi (i64.wrap (1000 * x15))] 3,O.cells [V.sl n11 (aa ae f11)] 32,O.cells [vi (i64.wrap (1000 * x16))] 3,O.cells [vi (i64.wrap (1000 * x17))] 3],none)
 | .L5 if0 nf1 if2 if3 if4 nf5 if6 if7 if8=>([(19,vi if0),(18,vi (↑n11:Int)),(17,V.sl n11 (aa ae f11)),(16,V.kb false),(15,V.kb false),(14,V.kb true),(13,vi (i64.wrap (1000 * x17))),(12,V.yl nf1),(11,V.kb false),(10,V.kb false),(9,V.kb true),(8,vi (i64.wrap (1000 * x16))),(7,V.yl nf1),(0,V.yl nf1),(1,V.pl 12 0),(2,V.pl 13 0),(3,V.pl 11 0)],yz s0 n1 f1 n3 f3 n5 f5 x7 x8 n9 f9 n11 f11 x13 x14 x15 x16 x17 [O.cells [vi if2,vi if3] 39,O.cells [V.sl n9 (aa ae f9)] 32,O.cells [vi (i64.wrap (1000 * x14))] 3,O.cells [vi (i64.wrap (1000 * x15))] 3,O.cells [vi if4] 3,O.cells [V.sl n11 (aa ae f11)] 32,O.cells [vi (i64.wrap (1000 * x16))] 3,O.cells [vi (i64.wrap (1000 * x17))] 3],none)
end
def abB:dV->JJ
 | .L0 ia0 na1 ia2 ia3 na4=>(0,[Cx.n na4,Cx.n na1])
 | .L2 ic0 nc1 ic2 ic3=>(2,[Cx.n nc1])
 | .L4 ie0 ne1 ie2 ie3 ne4 ie5 ne6 ie7 ie8=>(4,[Cx.n ne4,Cx.i ie5,Cx.n ne6,Cx.i ie7,Cx.i ie8,Cx.n ne1])
 | .L5 if0 nf1 if2 if3 if4 nf5 if6 if7 if8=>(5,[Cx.n nf5,Cx.i if6,Cx.i if7,Cx.i if8,Cx.n nf1])
section
variable (s0:ByteArray) (n1:Nat) (f1:ah) (n3:Nat) (f3:ah) (n5:Nat) (f5:ah) (x7 x8:Int) (n9:Nat) (f9:ah) (n11:Nat) (f11:ah) (x13 x14 x15 x16 x17:Int)
include s0 n1 f1 n3 f3 n5 f5 x7 x8 n9 f9 n11 f11 x13 x14 x15 x16 x17
def OD:T (bN JJ):=aS JJ uQ u0 zM [V.agg [V.str s0,V.sl n1 (aa ae f1),V.sl n3 (aa ae f3),V.sl n5 (aa [Ty.sl ae] f5),vi x7,vi x8,V.sl n9 (aa ae f9),V.sl n11 (aa ae f11),vi x13],V.agg [vi x14,vi x15,vi x16,vi x17]]
def tz (cx:List Cx):Lp JJ:=fb (eL (afT (eL (afT (eL (OD s0 n1 f1 n3 f3 n5 f5 x7 x8 n9 f9 n11 f11 x13 x14 x15 x16 x17) []) (yG cx 0)) []) (yG cx 1)) [true,true])
def zb (cx:List Cx):Lp JJ:=fb (eL (afT (eL (u4 uQ u0 (0,[.n (yG cx 0),.n (yG cx 2)]) (tz s0 n1 f1 n3 f3 n5 f5 x7 x8 n9 f9 n11 f11 x13 x14 x15 x16 x17 [.n (yG cx 0),.n (yG cx 2)]) (se s0 n1 f1 n3 f3 n5 f5 x7 x8 n9 f9 n11 f11 x13 x14 x15 x16 x17 (.L0 (Jg cx 1) (yG cx 2) (Jg cx 3) (Jg cx 4) (yG cx 0)))) [false]) (yG cx 5)) [true,true])
def AX (cx:List Cx):Lp JJ:=fb (eL (u4 uQ u0 (4,[.n (yG cx 0),.i (0:Int),.n 0,.i (0:Int),.i (0:Int),.n 0]) (zb s0 n1 f1 n3 f3 n5 f5 x7 x8 n9 f9 n11 f11 x13 x14 x15 x16 x17 [.n (yG cx 0),.i (0:Int),.n 0,.i (0:Int),.i (0:Int),.n 0]) (se s0 n1 f1 n3 f3 n5 f5 x7 x8 n9 f9 n11 f11 x13 x14 x15 x16 x17 (.L4 (0:Int) 0 (0:Int) (0:Int) (yG cx 0) (0:Int) 0 (0:Int) (0:Int)))) [false])
def N2 (cx:List Cx):Lp JJ:=fb (eL (afT (eL (u4 uQ u0 (2,[.n (yG cx 0)]) (AX s0 n1 f1 n3 f3 n5 f5 x7 x8 n9 f9 n11 f11 x13 x14 x15 x16 x17 [.n (yG cx 0)]) (se s0 n1 f1 n3 f3 n5 f5 x7 x8 n9 f9 n11 f11 x13 x14 x15 x16 x17 (.L2 (Jg cx 1) (yG cx 0) (Jg cx 2) (Jg cx 3)))) [true,true]) (yG cx 4)) [true,true])
def ad5:JJ->Lp JJ
 | (0,cx)=>tz s0 n1 f1 n3 f3 n5 f5 x7 x8 n9 f9 n11 f11 x13 x14 x15 x16 x17 cx
 | (2,cx)=>AX s0 n1 f1 n3 f3 n5 f5 x7 x8 n9 f9 n11 f11 x13 x14 x15 x16 x17 cx
 | (4,cx)=>zb s0 n1 f1 n3 f3 n5 f5 x7 x8 n9 f9 n11 f11 x13 x14 x15 x16 x17 cx
 | (5,cx)=>N2 s0 n1 f1 n3 f3 n5 f5 x7 x8 n9 f9 n11 f11 x13 x14 x15 x16 x17 cx
 | (_,cx)=>tz s0 n1 f1 n3 f3 n5 f5 x7 x8 n9 f9 n11 f11 x13 x14 x15 x16 x17 cx
def ai4:LD JJ dV:=⟨abB,ad5 s0 n1 f1 n3 f3 n5 f5 x7 x8 n9 f9 n11 f11 x13 x14 x15 x16 x17,se s0 n1 f1 n3 f3 n5 f5 x7 x8 n9 f9 n11 f11 x13 x14 x15 x16 x17⟩
end
def yaE (f5:ah) (x7:Int) (n9:Nat) (f9:ah) (n11:Nat) (f11:ah) (x14 x15 x16 x17:Int):=aa b4 (bQ [vi (aY (aa [Ty.sl ae] f5) n9 (aa ae f9) n11 (aa ae f11) (i64.wrap (1000 * x14)) (i64.wrap (1000 * x17))),vi (aZ (aa [Ty.sl ae] f5) x7 n9 (aa ae f9) n11 (aa ae f11) (i64.wrap (1000 * x14)) (i64.wrap (1000 * x17))),vi (aY (aa [Ty.sl ae] f5) n9 (aa ae f9) n11 (aa ae f11) (i64.wrap (1000 * x15)) (i64.wrap (1000 * x16))),vi (aZ (aa [Ty.sl ae] f5) x7 n9 (aa ae f9) n11 (aa ae f11) (i64.wrap (1000 * x15)) (i64.wrap (1000 * x16))),vi (aY (aa [Ty.sl ae] f5) n9 (aa ae f9) n11 (aa ae f11) (i64.wrap (1000 * x15)) (i64.wrap (1000 * x17))),vi (aZ (aa [Ty.sl ae] f5) x7 n9 (aa ae f9) n11 (aa ae f11) (i64.wrap (1000 * x15)) (i64.wrap (1000 * x17)))] 0 2)
def eb (n5:Nat) (f5:ah) (n9:Nat) (f9:ah) (n11:Nat) (f11:ah):=((2:Nat)<=n9/\n9<=(1000:Nat))/\((2:Nat)<=n11/\n11<=(1000:Nat))/\n9<=n5/\(∀ (i:Nat),i < n5->n11<=au (hdV (f5 i)))/\(∀ (i:Nat),i+(1:Nat) < n9->i64.wrap (ay (f9 (i+(1:Nat))) - ay (f9 i)) ≠ (0:Int))/\∀ (i:Nat),i+(1:Nat) < n11->i64.wrap (ay (f11 (i+(1:Nat))) - ay (f11 i)) ≠ (0:Int)
section
variable (f5:ah) (x7:Int) (n9:Nat) (f9:ah) (n11:Nat) (f11:ah)
include f5 x7 n9 f9 n11 f11
def sQ (x15 x16:Int):=aa b4 (bQ [vi (aY (aa [Ty.sl ae] f5) n9 (aa ae f9) n11 (aa ae f11) (i64.wrap (1000 * x15)) (i64.wrap (1000 * x16))),vi (aZ (aa [Ty.sl ae] f5) x7 n9 (aa ae f9) n11 (aa ae f11) (i64.wrap (1000 * x15)) (i64.wrap (1000 * x16)))] 0 2)
def sw (x15 x17:Int):=aa b4 (bQ [vi (aY (aa [Ty.sl ae] f5) n9 (aa ae f9) n11 (aa ae f11) (i64.wrap (1000 * x15)) (i64.wrap (1000 * x17))),vi (aZ (aa [Ty.sl ae] f5) x7 n9 (aa ae f9) n11 (aa ae f11) (i64.wrap (1000 * x15)) (i64.wrap (1000 * x17)))] 0 2)
def sA (x14 x16:Int):=aa b4 (bQ [vi (aY (aa [Ty.sl ae] f5) n9 (aa ae f9) n11 (aa ae f11) (i64.wrap (1000 * x14)) (i64.wrap (1000 * x16))),vi (aZ (aa [Ty.sl ae] f5) x7 n9 (aa ae f9) n11 (aa ae f11) (i64.wrap (1000 * x14)) (i64.wrap (1000 * x16)))] 0 2)
def sk (x14 x17:Int):=aa b4 (bQ [vi (aY (aa [Ty.sl ae] f5) n9 (aa ae f9) n11 (aa ae f11) (i64.wrap (1000 * x14)) (i64.wrap (1000 * x17))),vi (aZ (aa [Ty.sl ae] f5) x7 n9 (aa ae f9) n11 (aa ae f11) (i64.wrap (1000 * x14)) (i64.wrap (1000 * x17)))] 0 2)
def sh (x16 ic0:Int):=aa b4 (bQ [vi (aY (aa [Ty.sl ae] f5) n9 (aa ae f9) n11 (aa ae f11) (ay (f9 ic0.toNat)) (i64.wrap (1000 * x16))),vi (aZ (aa [Ty.sl ae] f5) x7 n9 (aa ae f9) n11 (aa ae f11) (ay (f9 ic0.toNat)) (i64.wrap (1000 * x16)))] 0 2)
def sL (x17 ic0:Int):=aa b4 (bQ [vi (aY (aa [Ty.sl ae] f5) n9 (aa ae f9) n11 (aa ae f11) (ay (f9 ic0.toNat)) (i64.wrap (1000 * x17))),vi (aZ (aa [Ty.sl ae] f5) x7 n9 (aa ae f9) n11 (aa ae f11) (ay (f9 ic0.toNat)) (i64.wrap (1000 * x17)))] 0 2)
def sT (x14 x15 x16 x17:Int):=db (aZ (aa [Ty.sl ae] f5) x7 n9 (aa ae f9) n11 (aa ae f11) (i64.wrap (1000 * x14)) (i64.wrap (1000 * x16))) 3 (yaE f5 x7 n9 f9 n11 f11 x14 x15 x16 x17)
def pp (x14 x15 x16 x17:Int):=da (aY (aa [Ty.sl ae] f5) n9 (aa ae f9) n11 (aa ae f11) (i64.wrap (1000 * x14)) (i64.wrap (1000 * x16))) 3 (yaE f5 x7 n9 f9 n11 f11 x14 x15 x16 x17)
def AN (x14 ia0:Int):=aa b4 (bQ [vi (aY (aa [Ty.sl ae] f5) n9 (aa ae f9) n11 (aa ae f11) (i64.wrap (1000 * x14)) (ay (f11 ia0.toNat))),vi (aZ (aa [Ty.sl ae] f5) x7 n9 (aa ae f9) n11 (aa ae f11) (i64.wrap (1000 * x14)) (ay (f11 ia0.toNat)))] 0 2)
def yR (x15 ie0:Int):=aa b4 (bQ [vi (aY (aa [Ty.sl ae] f5) n9 (aa ae f9) n11 (aa ae f11) (i64.wrap (1000 * x15)) (ay (f11 ie0.toNat))),vi (aZ (aa [Ty.sl ae] f5) x7 n9 (aa ae f9) n11 (aa ae f11) (i64.wrap (1000 * x15)) (ay (f11 ie0.toNat)))] 0 2)
def AS (if0 if4:Int):=aa b4 (bQ [vi (aY (aa [Ty.sl ae] f5) n9 (aa ae f9) n11 (aa ae f11) if4 (ay (f11 if0.toNat))),vi (aZ (aa [Ty.sl ae] f5) x7 n9 (aa ae f9) n11 (aa ae f11) if4 (ay (f11 if0.toNat)))] 0 2)
end
def uR (f11:ah) (x16 x17 ia0:Int):=bif decide (i64.wrap (1000 * x16) < ay (f11 ia0.toNat)) then decide (ay (f11 ia0.toNat) < i64.wrap (1000 * x17)) else false
def uT (f11:ah) (x16 x17 ie0:Int):=bif decide (i64.wrap (1000 * x16) < ay (f11 ie0.toNat)) then decide (ay (f11 ie0.toNat) < i64.wrap (1000 * x17)) else false
def uY (f11:ah) (x16 x17 if0:Int):=bif decide (i64.wrap (1000 * x16) < ay (f11 if0.toNat)) then decide (ay (f11 if0.toNat) < i64.wrap (1000 * x17)) else false
def ug (f9:ah) (x14 x15 ic0:Int):=bif decide (i64.wrap (1000 * x14) < ay (f9 ic0.toNat)) then decide (ay (f9 ic0.toNat) < i64.wrap (1000 * x15)) else false
def eZ (s0:ByteArray) (n1:Nat) (f1:ah) (n3:Nat) (f3:ah) (n5:Nat) (f5:ah) (x7 x8:Int) (n9:Nat) (f9:ah) (n11:Nat) (f11:ah) (x13 x14 x15 x16 x17:Int):dV->RT dV
 | .L0 ia0 na1 ia2 ia3 na4=>.br (decide (ia0 < (↑n11:Int))) (.ob (decide (0<=ia0/\ia0 < (↑n11:Int))) (.obi (.obi (.obi (.br (uR f11 x16 x17 ia0) (.ob (uR f11 x16 x17 ia0) (.ob (uR f11 x16 x17 ia0) (.obp (((1:Nat)<=n9/\n9<=(1000:Nat))/\(1:Nat)<=n11/\n11<=(1000:Nat)) (.obt (.br (bc n9 (aa ae f9) n11 (aa ae f11) (i64.wrap (1000 * x14)) (ay (f11 ia0.toNat))) (.obp (eb n5 f5 n9 f9 n11 f11) (.obt (.obc (.obt (.next (iR 0 14 []) (dV.L0 (i64.wrap (ia0+1)) (na1) (da ia2 1 (AN f5 x7 n9 f9 n11 f11 x14 ia0)) (db ia3 1 (AN f5 x7 n9 f9 n11 f11 x14 ia0)) (na4)) []))))) (.next (iR 0 14 []) (dV.L0 (i64.wrap (ia0+1)) (na1) (ia2) (ia3) (na4)) [])))))) (.next (iR 0 14 []) (dV.L0 (i64.wrap (ia0+1)) (na1) (ia2) (ia3) (na4)) [])))))) (.all (fun l_12647=>.obp (((1:Nat)<=n9/\n9<=(1000:Nat))/\(1:Nat)<=n11/\n11<=(1000:Nat)) (.obt (.br (bc n9 (aa ae f9) n11 (aa ae f11) (i64.wrap (1000 * x15)) (i64.wrap (1000 * x16))) (.obp (eb n5 f5 n9 f9 n11 f11) (.obt (.obc (.obt (.obp (((1:Nat)<=n9/\n9<=(1000:Nat))/\(1:Nat)<=n11/\n11<=(1000:Nat)) (.obt (.br (bc n9 (aa ae f9) n11 (aa ae f11) (i64.wrap (1000 * x15)) (i64.wrap (1000 * x17))) (.obp (eb n5 f5 n9 f9 n11 f11) (.obt (.obc (.obt (.asm (true=true->n11<=9223372036854775807) (.enter (iR 0 18 []) (dV.L4 (0) (l_12647) (da (da ia2 1 (sQ f5 x7 n9 f9 n11 f11 x15 x16)) 1 (sw f5 x7 n9 f9 n11 f11 x15 x17)) (db (db ia3 1 (sQ f5 x7 n9 f9 n11 f11 x15 x16)) 1 (sw f5 x7 n9 f9 n11 f11 x15 x17)) (na4) (ia0) (na1) (ia2) (ia3)) [])))))) (.asm (true=true->n11<=9223372036854775807) (.enter (iR 0 18 []) (dV.L4 (0) (l_12647) (da ia2 1 (sQ f5 x7 n9 f9 n11 f11 x15 x16)) (db ia3 1 (sQ f5 x7 n9 f9 n11 f11 x15 x16)) (na4) (ia0) (na1) (ia2) (ia3)) []))))))))) (.obp (((1:Nat)<=n9/\n9<=(1000:Nat))/\(1:Nat)<=n11/\n11<=(1000:Nat)) (.obt (.br (bc n9 (aa ae f9) n11 (aa ae f11) (i64.wrap (1000 * x15)) (i64.wrap (1000 * x17))) (.obp (eb n5 f5 n9 f9 n11 f11) (.obt (.obc (.obt (.asm (true=true->n11<=9223372036854775807) (.enter (iR 0 18 []) (dV.L4 (0) (l_12647) (da ia2 1 (sw f5 x7 n9 f9 n11 f11 x15 x17)) (db ia3 1 (sw f5 x7 n9 f9 n11 f11 x15 x17)) (na4) (ia0) (na1) (ia2) (ia3)) [])))))) (.asm (true=true->n11<=9223372036854775807) (.enter (iR 0 18 []) (dV.L4 (0) (l_12647) (ia2) (ia3) (na4) (ia0) (na1) (ia2) (ia3)) [])))))))))
 | .L2 ic0 nc1 ic2 ic3=>.br (decide (ic0 < (↑n9:Int))) (.ob (decide (0<=ic0/\ic0 < (↑n9:Int))) (.obi (.obi (.obi (.br (ug f9 x14 x15 ic0) (.ob (ug f9 x14 x15 ic0) (.ob (ug f9 x14 x15 ic0) (.all (fun l_12833=>.obp (((1:Nat)<=n9/\n9<=(1000:Nat))/\(1:Nat)<=n11/\n11<=(1000:Nat)) (.obt (.br (bc n9 (aa ae f9) n11 (aa ae f11) (ay (f9 ic0.toNat)) (i64.wrap (1000 * x16))) (.obp (eb n5 f5 n9 f9 n11 f11) (.obt (.obc (.obt (.obp (((1:Nat)<=n9/\n9<=(1000:Nat))/\(1:Nat)<=n11/\n11<=(1000:Nat)) (.obt (.br (bc n9 (aa ae f9) n11 (aa ae f11) (ay (f9 ic0.toNat)) (i64.wrap (1000 * x17))) (.obp (eb n5 f5 n9 f9 n11 f11) (.obt (.obc (.obt (.asm (true=true->n11<=9223372036854775807) (.enter (iR 0 14 []) (dV.L5 (0) (l_12833) (da (da ic2 1 (sh f5 x7 n9 f9 n11 f11 x16 ic0)) 1 (sL f5 x7 n9 f9 n11 f11 x17 ic0)) (db (db ic3 1 (sh f5 x7 n9 f9 n11 f11 x16 ic0)) 1 (sL f5 x7 n9 f9 n11 f11 x17 ic0)) (ay (f9 ic0.toNat)) (nc1) (ic0) (ic2) (ic3)) [])))))) (.asm (true=true->n11<=9223372036854775807) (.enter (iR 0 14 []) (dV.L5 (0) (l_12833) (da ic2 1 (sh f5 x7 n9 f9 n11 f11 x16 ic0)) (db ic3 1 (sh f5 x7 n9 f9 n11 f11 x16 ic0)) (ay (f9 ic0.toNat)) (nc1) (ic0) (ic2) (ic3)) []))))))))) (.obp (((1:Nat)<=n9/\n9<=(1000:Nat))/\(1:Nat)<=n11/\n11<=(1000:Nat)) (.obt (.br (bc n9 (aa ae f9) n11 (aa ae f11) (ay (f9 ic0.toNat)) (i64.wrap (1000 * x17))) (.obp (eb n5 f5 n9 f9 n11 f11) (.obt (.obc (.obt (.asm (true=true->n11<=9223372036854775807) (.enter (iR 0 14 []) (dV.L5 (0) (l_12833) (da ic2 1 (sL f5 x7 n9 f9 n11 f11 x17 ic0)) (db ic3 1 (sL f5 x7 n9 f9 n11 f11 x17 ic0)) (ay (f9 ic0.toNat)) (nc1) (ic0) (ic2) (ic3)) [])))))) (.asm (true=true->n11<=9223372036854775807) (.enter (iR 0 14 []) (dV.L5 (0) (l_12833) (ic2) (ic3) (ay (f9 ic0.toNat)) (nc1) (ic0) (ic2) (ic3)) []))))))))))) (.next (iR 0 10 []) (dV.L2 (i64.wrap (ic0+1)) (nc1) (ic2) (ic3)) [])))))) (.ret (V.agg [vi ic2,vi ic3]))
 | .L4 ie0 ne1 ie2 ie3 ne4 ie5 ne6 ie7 ie8=>.br (decide (ie0 < (↑n11:Int))) (.ob (decide (0<=ie0/\ie0 < (↑n11:Int))) (.obi (.obi (.obi (.br (uT f11 x16 x17 ie0) (.ob (uT f11 x16 x17 ie0) (.ob (uT f11 x16 x17 ie0) (.obp (((1:Nat)<=n9/\n9<=(1000:Nat))/\(1:Nat)<=n11/\n11<=(1000:Nat)) (.obt (.br (bc n9 (aa ae f9) n11 (aa ae f11) (i64.wrap (1000 * x15)) (ay (f11 ie0.toNat))) (.obp (eb n5 f5 n9 f9 n11 f11) (.obt (.obc (.obt (.next (iR 0 18 []) (dV.L4 (i64.wrap (ie0+1)) (ne1) (da ie2 1 (yR f5 x7 n9 f9 n11 f11 x15 ie0)) (db ie3 1 (yR f5 x7 n9 f9 n11 f11 x15 ie0)) (ne4) (ie5) (ne6) (ie7) (ie8)) []))))) (.next (iR 0 18 []) (dV.L4 (i64.wrap (ie0+1)) (ne1) (ie2) (ie3) (ne4) (ie5) (ne6) (ie7) (ie8)) [])))))) (.next (iR 0 18 []) (dV.L4 (i64.wrap (ie0+1)) (ne1) (ie2) (ie3) (ne4) (ie5) (ne6) (ie7) (ie8)) [])))))) (.asm (true=true->n9<=9223372036854775807) (.enter (iR 0 10 []) (dV.L2 (0) (ne4) (ie2) (ie3)) []))
 | .L5 if0 nf1 if2 if3 if4 nf5 if6 if7 if8=>.br (decide (if0 < (↑n11:Int))) (.ob (decide (0<=if0/\if0 < (↑n11:Int))) (.obi (.obi (.obi (.br (uY f11 x16 x17 if0) (.ob (uY f11 x16 x17 if0) (.ob (uY f11 x16 x17 if0) (.obp (((1:Nat)<=n9/\n9<=(1000:Nat))/\(1:Nat)<=n11/\n11<=(1000:Nat)) (.obt (.br (bc n9 (aa ae f9) n11 (aa ae f11) if4 (ay (f11 if0.toNat))) (.obp (eb n5 f5 n9 f9 n11 f11) (.obt (.obc (.obt (.next (iR 0 14 []) (dV.L5 (i64.wrap (if0+1)) (nf1) (da if2 1 (AS f5 x7 n9 f9 n11 f11 if0 if4)) (db if3 1 (AS f5 x7 n9 f9 n11 f11 if0 if4)) (if4) (nf5) (if6) (if7) (if8)) []))))) (.next (iR 0 14 []) (dV.L5 (i64.wrap (if0+1)) (nf1) (if2) (if3) (if4) (nf5) (if6) (if7) (if8)) [])))))) (.next (iR 0 14 []) (dV.L5 (i64.wrap (if0+1)) (nf1) (if2) (if3) (if4) (nf5) (if6) (if7) (if8)) [])))))) (.next (iR 0 10 []) (dV.L2 (i64.wrap (if6+1)) (nf5) (if2) (if3)) [])
def Ik (s0:ByteArray) (n1:Nat) (f1:ah) (n3:Nat) (f3:ah) (n5:Nat) (f5:ah) (x7 x8:Int) (n9:Nat) (f9:ah) (n11:Nat) (f11:ah) (x13 x14 x15 x16 x17:Int):RT dV:=.obp (eb n5 f5 n9 f9 n11 f11) (.obt (.obp (eb n5 f5 n9 f9 n11 f11) (.obt (.obp (eb n5 f5 n9 f9 n11 f11) (.obt (.obp (eb n5 f5 n9 f9 n11 f11) (.obt (.obc (.obt (.all (fun l_12550=>.all (fun l_12551=>.obp (((1:Nat)<=n9/\n9<=(1000:Nat))/\(1:Nat)<=n11/\n11<=(1000:Nat)) (.obt (.br (bc n9 (aa ae f9) n11 (aa ae f11) (i64.wrap (1000 * x14)) (i64.wrap (1000 * x16))) (.obp (eb n5 f5 n9 f9 n11 f11) (.obt (.obc (.obt (.obp (((1:Nat)<=n9/\n9<=(1000:Nat))/\(1:Nat)<=n11/\n11<=(1000:Nat)) (.obt (.br (bc n9 (aa ae f9) n11 (aa ae f11) (i64.wrap (1000 * x14)) (i64.wrap (1000 * x17))) (.obp (eb n5 f5 n9 f9 n11 f11) (.obt (.obc (.obt (.asm (true=true->n11<=9223372036854775807) (.enter (iR 0 14 []) (dV.L0 (0) (l_12551) (da (da (pp f5 x7 n9 f9 n11 f11 x14 x15 x16 x17) 1 (sA f5 x7 n9 f9 n11 f11 x14 x16)) 1 (sk f5 x7 n9 f9 n11 f11 x14 x17)) (db (db (sT f5 x7 n9 f9 n11 f11 x14 x15 x16 x17) 1 (sA f5 x7 n9 f9 n11 f11 x14 x16)) 1 (sk f5 x7 n9 f9 n11 f11 x14 x17)) (l_12550)) [])))))) (.asm (true=true->n11<=9223372036854775807) (.enter (iR 0 14 []) (dV.L0 (0) (l_12551) (da (pp f5 x7 n9 f9 n11 f11 x14 x15 x16 x17) 1 (sA f5 x7 n9 f9 n11 f11 x14 x16)) (db (sT f5 x7 n9 f9 n11 f11 x14 x15 x16 x17) 1 (sA f5 x7 n9 f9 n11 f11 x14 x16)) (l_12550)) []))))))))) (.obp (((1:Nat)<=n9/\n9<=(1000:Nat))/\(1:Nat)<=n11/\n11<=(1000:Nat)) (.obt (.br (bc n9 (aa ae f9) n11 (aa ae f11) (i64.wrap (1000 * x14)) (i64.wrap (1000 * x17))) (.obp (eb n5 f5 n9 f9 n11 f11) (.obt (.obc (.obt (.asm (true=true->n11<=9223372036854775807) (.enter (iR 0 14 []) (dV.L0 (0) (l_12551) (da (pp f5 x7 n9 f9 n11 f11 x14 x15 x16 x17) 1 (sk f5 x7 n9 f9 n11 f11 x14 x17)) (db (sT f5 x7 n9 f9 n11 f11 x14 x15 x16 x17) 1 (sk f5 x7 n9 f9 n11 f11 x14 x17)) (l_12550)) [])))))) (.asm (true=true->n11<=9223372036854775807) (.enter (iR 0 14 []) (dV.L0 (0) (l_12551) (pp f5 x7 n9 f9 n11 f11 x14 x15 x16 x17) (sT f5 x7 n9 f9 n11 f11 x14 x15 x16 x17) (l_12550)) [])))))))))))))))))))
theorem SU (s0:ByteArray) (n1:Nat) (f1:ah) (n3:Nat) (f3:ah) (n5:Nat) (f5:ah) (x7 x8:Int) (n9:Nat) (f9:ah) (n11:Nat) (f11:ah) (x13 x14 x15 x16 x17:Int):dR uQ u0 (ai4 s0 n1 f1 n3 f3 n5 f5 x7 x8 n9 f9 n11 f11 x13 x14 x15 x16 x17) (OD s0 n1 f1 n3 f3 n5 f5 x7 x8 n9 f9 n11 f11 x13 x14 x15 x16 x17) (Ik s0 n1 f1 n3 f3 n5 f5 x7 x8 n9 f9 n11 f11 x13 x14 x15 x16 x17) (eZ s0 n1 f1 n3 f3 n5 f5 x7 x8 n9 f9 n11 f11 x13 x14 x15 x16 x17):=⟨⟨by kernel_rfl,by kernel_rfl⟩,fun s=>by cases s <;> exact ⟨by kernel_rfl,by kernel_rfl⟩⟩
def JI (f5:ah) (x7:Int) (n9:Nat) (f9:ah) (n11:Nat) (f11:ah) (u v:Int) (o:Int × Int):Int × Int:=bif bc n9 f9 n11 f11 u v then (min o.1 (aY f5 n9 f9 n11 f11 u v),max o.2 (aZ f5 x7 n9 f9 n11 f11 u v)) else o
def yI (lo hi v:Int):Bool:=bif decide (lo < v) then decide (v < hi) else false
def yH (f5:ah) (x7:Int) (n9:Nat) (f9:ah) (n11:Nat) (f11:ah) (y0 y1 u:Int) (o:Int × Int):Nat->Int × Int
 | 0=>o
 | k+1=>bif yI y0 y1 (ay (f11 k)) then JI f5 x7 n9 f9 n11 f11 u (ay (f11 k)) (yH f5 x7 n9 f9 n11 f11 y0 y1 u o k) else yH f5 x7 n9 f9 n11 f11 y0 y1 u o k
section
variable (f5:ah) (x7:Int) (n9:Nat) (f9:ah) (n11:Nat) (f11:ah) (y0 y1 u:Int) (o:Int × Int)
include f5 x7 n9 f9 n11 f11 y0 y1 u o
def BO:Int × Int:=JI f5 x7 n9 f9 n11 f11 u y1 (JI f5 x7 n9 f9 n11 f11 u y0 o)
def TK:Int × Int:=yH f5 x7 n9 f9 n11 f11 y0 y1 u (BO f5 x7 n9 f9 n11 f11 y0 y1 u o) n11
end
def Bs (f5:ah) (x7:Int) (n9:Nat) (f9:ah) (n11:Nat) (f11:ah) (x0 x1 y0 y1:Int) (o:Int × Int):Nat->Int × Int
 | 0=>o
 | k+1=>bif yI x0 x1 (ay (f9 k)) then TK f5 x7 n9 f9 n11 f11 y0 y1 (ay (f9 k)) (Bs f5 x7 n9 f9 n11 f11 x0 x1 y0 y1 o k) else Bs f5 x7 n9 f9 n11 f11 x0 x1 y0 y1 o k
section
variable (f5:ah) (x7:Int) (n9:Nat) (f9:ah) (n11:Nat) (f11:ah)
include f5 x7 n9 f9 n11 f11
def ovH (x0 x1 y0 y1:Int):Int × Int:=(min (min (min (aY f5 n9 f9 n11 f11 x0 y0) (aY f5 n9 f9 n11 f11 x0 y1)) (aY f5 n9 f9 n11 f11 x1 y0)) (aY f5 n9 f9 n11 f11 x1 y1),max (max (max (aZ f5 x7 n9 f9 n11 f11 x0 y0) (aZ f5 x7 n9 f9 n11 f11 x0 y1)) (aZ f5 x7 n9 f9 n11 f11 x1 y0)) (aZ f5 x7 n9 f9 n11 f11 x1 y1))
def ovA (x0 x1 y0 y1:Int):Int × Int:=Bs f5 x7 n9 f9 n11 f11 x0 x1 y0 y1 (TK f5 x7 n9 f9 n11 f11 y0 y1 x1 (TK f5 x7 n9 f9 n11 f11 y0 y1 x0 (ovH f5 x7 n9 f9 n11 f11 x0 x1 y0 y1))) n9
def ge (x14 x15 x16 x17:Int):Int:=(ovA f5 x7 n9 f9 n11 f11 (i64.wrap (1000 * x14)) (i64.wrap (1000 * x15)) (i64.wrap (1000 * x16)) (i64.wrap (1000 * x17))).1
def gf (x14 x15 x16 x17:Int):Int:=(ovA f5 x7 n9 f9 n11 f11 (i64.wrap (1000 * x14)) (i64.wrap (1000 * x15)) (i64.wrap (1000 * x16)) (i64.wrap (1000 * x17))).2
end
section
variable {f5:Nat->List V} {x7:Int} {n9:Nat} {f9:Nat->List V} {n11:Nat} {f11:Nat->List V}
include f5 x7 n9 f9 n11 f11
theorem nG {u v:Int} {o:Int × Int} (h:bc n9 f9 n11 f11 u v=true):JI f5 x7 n9 f9 n11 f11 u v o=(min o.1 (aY f5 n9 f9 n11 f11 u v),max o.2 (aZ f5 x7 n9 f9 n11 f11 u v)):=by unfold JI; rw [h]; rfl
theorem pT {u v:Int} {o:Int × Int} (h:bc n9 f9 n11 f11 u v=false):JI f5 x7 n9 f9 n11 f11 u v o=o:=by unfold JI; rw [h]; rfl
theorem tx {y0 y1 u:Int} {o:Int × Int} {k:Nat} (h:(bif decide (y0 < ay (f11 k)) then decide (ay (f11 k) < y1) else false)=true):yH f5 x7 n9 f9 n11 f11 y0 y1 u o (k+1)=JI f5 x7 n9 f9 n11 f11 u (ay (f11 k)) (yH f5 x7 n9 f9 n11 f11 y0 y1 u o k):=by
 show (bif yI _ _ _ then _ else _)=_
 rw [show yI y0 y1 (ay (f11 k))=true from h]; rfl
theorem Fs {y0 y1 u:Int} {o:Int × Int} {k:Nat} (h:(bif decide (y0 < ay (f11 k)) then decide (ay (f11 k) < y1) else false)=false):yH f5 x7 n9 f9 n11 f11 y0 y1 u o (k+1)=yH f5 x7 n9 f9 n11 f11 y0 y1 u o k:=by
 show (bif yI _ _ _ then _ else _)=_
 rw [show yI y0 y1 (ay (f11 k))=false from h]; rfl
theorem Zx {x0 x1 y0 y1:Int} {o:Int × Int} {k:Nat} (h:(bif decide (x0 < ay (f9 k)) then decide (ay (f9 k) < x1) else false)=true):Bs f5 x7 n9 f9 n11 f11 x0 x1 y0 y1 o (k+1)=TK f5 x7 n9 f9 n11 f11 y0 y1 (ay (f9 k)) (Bs f5 x7 n9 f9 n11 f11 x0 x1 y0 y1 o k):=by
 show (bif yI _ _ _ then _ else _)=_
 rw [show yI x0 x1 (ay (f9 k))=true from h]; rfl
theorem Wu {x0 x1 y0 y1:Int} {o:Int × Int} {k:Nat} (h:(bif decide (x0 < ay (f9 k)) then decide (ay (f9 k) < x1) else false)=false):Bs f5 x7 n9 f9 n11 f11 x0 x1 y0 y1 o (k+1)=Bs f5 x7 n9 f9 n11 f11 x0 x1 y0 y1 o k:=by
 show (bif yI _ _ _ then _ else _)=_
 rw [show yI x0 x1 (ay (f9 k))=false from h]; rfl
theorem Cj {y0 y1 u:Int} {o:Int × Int} (h:bc n9 f9 n11 f11 u y0=true) (k:bc n9 f9 n11 f11 u y1=true):BO f5 x7 n9 f9 n11 f11 y0 y1 u o=(min (min o.1 (aY f5 n9 f9 n11 f11 u y0)) (aY f5 n9 f9 n11 f11 u y1),max (max o.2 (aZ f5 x7 n9 f9 n11 f11 u y0)) (aZ f5 x7 n9 f9 n11 f11 u y1)):=by unfold BO; rw [nG k,nG h]
theorem Ca {y0 y1 u:Int} {o:Int × Int} (h:bc n9 f9 n11 f11 u y0=true) (k:bc n9 f9 n11 f11 u y1=false):BO f5 x7 n9 f9 n11 f11 y0 y1 u o=(min o.1 (aY f5 n9 f9 n11 f11 u y0),max o.2 (aZ f5 x7 n9 f9 n11 f11 u y0)):=by unfold BO; rw [pT k,nG h]
theorem Bj {y0 y1 u:Int} {o:Int × Int} (h:bc n9 f9 n11 f11 u y0=false) (k:bc n9 f9 n11 f11 u y1=true):BO f5 x7 n9 f9 n11 f11 y0 y1 u o=(min o.1 (aY f5 n9 f9 n11 f11 u y1),max o.2 (aZ f5 x7 n9 f9 n11 f11 u y1)):=by unfold BO; rw [nG k,pT h]
theorem CH {y0 y1 u:Int} {o:Int × Int} (h:bc n9 f9 n11 f11 u y0=false) (k:bc n9 f9 n11 f11 u y1=false):BO f5 x7 n9 f9 n11 f11 y0 y1 u o=o:=by unfold BO; rw [pT k,pT h]
end
section
variable {S:Type} {Nx:S->V->Prop} {r:V}
include S Nx r
theorem B7 {H Q:Prop} {h0 h1:Bool} {T11 T10 T01 T00:RT S} (hH:H) (hQ:Q) (t11:h0=true->h1=true->aN Nx T11 r) (t10:h0=true->h1=false->aN Nx T10 r) (t01:h0=false->h1=true->aN Nx T01 r) (t00:h0=false->h1=false->aN Nx T00 r) :
 aN Nx (.obp H (.obt (.br h0 (.obp Q (.obt (.obc (.obt (.obp H (.obt (.br h1 (.obp Q (.obt (.obc (.obt T11)))) T10))))))) (.obp H (.obt (.br h1 (.obp Q (.obt (.obc (.obt T01)))) T00)))))) r :=
 aC hH (af (evBr (fun a=>aC hQ (af (av (af (aC hH (af (evBr (fun c=>aC hQ (af (av (af (t11 a c))))) (fun c=>t10 a c)))))))) (fun a=>aC hH (af (evBr (fun c=>aC hQ (af (av (af (t01 a c))))) (fun c=>t00 a c))))))
theorem PT {H Q:Prop} {c0 c d h:Bool} {T1 T2 T3:RT S} (hc:c0=true) (hH:H) (hQ:Q) (t1:c=true->h=true->aN Nx T1 r) (t2:c=true->h=false->aN Nx T2 r) (t3:c=false->aN Nx T3 r) :
 aN Nx (.ob c0 (.obi (.obi (.obi (.br c (.ob c (.ob c (.obp H (.obt (.br h (.obp Q (.obt (.obc (.obt T1)))) T2))))) T3))))) r :=
 aM hc (evObi (evObi (evObi (evBr (fun a=>aM a (aM a (aC hH (af (evBr (fun e=>aC hQ (af (av (af (t1 a e))))) (fun e=>t2 a e)))))) (fun a=>t3 a)))))
theorem IS {c0 c:Bool} {T1 T3:RT S} (hc:c0=true) (t1:c=true->aN Nx T1 r) (t3:c=false->aN Nx T3 r) :
 aN Nx (.ob c0 (.obi (.obi (.obi (.br c (.ob c (.ob c T1)) T3))))) r :=
 aM hc (evObi (evObi (evObi (evBr (fun a=>aM a (aM a (t1 a))) t3))))
end
section
variable (f5:ah) (x7:Int) (n9:Nat) (f9:ah) (n11:Nat) (f11:ah) (x14 x15 x16 x17:Int)
include f5 x7 n9 f9 n11 f11 x14 x15 x16 x17
def ov0:Int × Int:=ovH (aa [Ty.sl ae] f5) x7 n9 (aa ae f9) n11 (aa ae f11) (i64.wrap (1000 * x14)) (i64.wrap (1000 * x15)) (i64.wrap (1000 * x16)) (i64.wrap (1000 * x17))
def QB:Int × Int:=TK (aa [Ty.sl ae] f5) x7 n9 (aa ae f9) n11 (aa ae f11) (i64.wrap (1000 * x16)) (i64.wrap (1000 * x17)) (i64.wrap (1000 * x14)) (ov0 f5 x7 n9 f9 n11 f11 x14 x15 x16 x17)
def ov2:Int × Int:=TK (aa [Ty.sl ae] f5) x7 n9 (aa ae f9) n11 (aa ae f11) (i64.wrap (1000 * x16)) (i64.wrap (1000 * x17)) (i64.wrap (1000 * x15)) (QB f5 x7 n9 f9 n11 f11 x14 x15 x16 x17)
end
section
variable (s0:ByteArray) (n1:Nat) (f1:ah) (n3:Nat) (f3:ah) (n5:Nat) (f5:ah) (x7:Int) (x8:Int) (n9:Nat) (f9:ah) (n11:Nat) (f11:ah) (x13:Int) (x14:Int) (x15:Int) (x16:Int) (x17:Int) (hp:pX n5 (aa [Ty.sl ae] f5) n9 (aa ae f9) n11 (aa ae f11))
include hp
theorem SH (u i0 o1 o2:Int) (o:Int × Int) (nx:∃ N,∀ l1,qt (eZ s0 n1 f1 n3 f3 n5 f5 x7 x8 n9 f9 n11 f11 x13 x14 x15 x16 x17) N (.L2 (i64.wrap (i0+1)) l1 (yH (aa [Ty.sl ae] f5) x7 n9 (aa ae f9) n11 (aa ae f11) (i64.wrap (1000 * x16)) (i64.wrap (1000 * x17)) u o n11).1 (yH (aa [Ty.sl ae] f5) x7 n9 (aa ae f9) n11 (aa ae f11) (i64.wrap (1000 * x16)) (i64.wrap (1000 * x17)) u o n11).2) (.agg [.int .i64 (ge (aa [Ty.sl ae] f5) x7 n9 (aa ae f9) n11 (aa ae f11) x14 x15 x16 x17),.int .i64 (gf (aa [Ty.sl ae] f5) x7 n9 (aa ae f9) n11 (aa ae f11) x14 x15 x16 x17)])):∀ k,k<=n11->∃ N,∀ l0 l1,qt (eZ s0 n1 f1 n3 f3 n5 f5 x7 x8 n9 f9 n11 f11 x13 x14 x15 x16 x17) N (.L5 (k:Int) l0 (yH (aa [Ty.sl ae] f5) x7 n9 (aa ae f9) n11 (aa ae f11) (i64.wrap (1000 * x16)) (i64.wrap (1000 * x17)) u o k).1 (yH (aa [Ty.sl ae] f5) x7 n9 (aa ae f9) n11 (aa ae f11) (i64.wrap (1000 * x16)) (i64.wrap (1000 * x17)) u o k).2 u l1 i0 o1 o2) (.agg [.int .i64 (ge (aa [Ty.sl ae] f5) x7 n9 (aa ae f9) n11 (aa ae f11) x14 x15 x16 x17),.int .i64 (gf (aa [Ty.sl ae] f5) x7 n9 (aa ae f9) n11 (aa ae f11) x14 x15 x16 x17)]):=by
 refine dH fun k hk ih=>?_
 have hb:=hp.b
 by_cases hlt:k < n11
 ·have hw:i64.wrap ((k:Int)+1)=((k+1:Nat):Int):=by rw [wrapI (by omega) (by omega)]; omega
  obtain ⟨N,ih⟩:=ih hlt
  refine ⟨N+1,fun l0 l1=>?_⟩
  have ih:=ih l0 l1
  refine (show aN (qt (eZ s0 n1 f1 n3 f3 n5 f5 x7 x8 n9 f9 n11 f11 x13 x14 x15 x16 x17) N) _ _ from ?_)
  refine fA (dqt (by omega)) (PT (d:=true) (dqt (by omega)) (HO hp) hp (fun a e=>aQ ?_) (fun a e=>aQ ?_) (fun a=>aQ ?_))
  ·rw [hw]
   have e:bc n9 (aa ae f9) n11 (aa ae f11) u (ay ((aa ae f11) k))=true:=e
   rw [tx (f11:=(aa ae f11)) (k:=k) a,nG e] at ih
   exact ih
  ·rw [hw]
   have e:bc n9 (aa ae f9) n11 (aa ae f11) u (ay ((aa ae f11) k))=false:=e
   rw [tx (f11:=(aa ae f11)) (k:=k) a,pT e] at ih
   exact ih
  ·rw [hw]
   rw [Fs (f11:=(aa ae f11)) (k:=k) a] at ih
   exact ih
 ·have e:k=n11:=by omega
  obtain ⟨M,nx⟩:=nx
  refine ⟨M+1,fun l0 l1=>?_⟩
  refine (show aN (qt (eZ s0 n1 f1 n3 f3 n5 f5 x7 x8 n9 f9 n11 f11 x13 x14 x15 x16 x17) M) _ _ from ?_)
  refine ft (jx (by omega)) ?_
  rw [e]
  exact aQ (nx l1)
theorem Si:∀ k,k<=n9->∃ N,∀ l,qt (eZ s0 n1 f1 n3 f3 n5 f5 x7 x8 n9 f9 n11 f11 x13 x14 x15 x16 x17) N (.L2 (k:Int) l (Bs (aa [Ty.sl ae] f5) x7 n9 (aa ae f9) n11 (aa ae f11) (i64.wrap (1000 * x14)) (i64.wrap (1000 * x15)) (i64.wrap (1000 * x16)) (i64.wrap (1000 * x17)) (ov2 f5 x7 n9 f9 n11 f11 x14 x15 x16 x17) k).1 (Bs (aa [Ty.sl ae] f5) x7 n9 (aa ae f9) n11 (aa ae f11) (i64.wrap (1000 * x14)) (i64.wrap (1000 * x15)) (i64.wrap (1000 * x16)) (i64.wrap (1000 * x17)) (ov2 f5 x7 n9 f9 n11 f11 x14 x15 x16 x17) k).2) (.agg [.int .i64 (ge (aa [Ty.sl ae] f5) x7 n9 (aa ae f9) n11 (aa ae f11) x14 x15 x16 x17),.int .i64 (gf (aa [Ty.sl ae] f5) x7 n9 (aa ae f9) n11 (aa ae f11) x14 x15 x16 x17)]):=by
 refine dH fun k hk ih=>?_
 have ha:=hp.a
 by_cases hlt:k < n9
 ·have hw:i64.wrap ((k:Int)+1)=((k+1:Nat):Int):=by rw [wrapI (by omega) (by omega)]; omega
  have ih:=ih hlt
  rw [← hw] at ih
  by_cases hc:(bif decide ((i64.wrap (1000 * x14)) < ay ((aa ae f9) k)) then decide (ay ((aa ae f9) k) < (i64.wrap (1000 * x15))) else false)=true
  ·rw [Zx hc] at ih
   obtain ⟨N,nx⟩:=SH s0 n1 f1 n3 f3 n5 f5 x7 x8 n9 f9 n11 f11 x13 x14 x15 x16 x17 hp (ay (f9 k)) (k:Int) (Bs (aa [Ty.sl ae] f5) x7 n9 (aa ae f9) n11 (aa ae f11) (i64.wrap (1000 * x14)) (i64.wrap (1000 * x15)) (i64.wrap (1000 * x16)) (i64.wrap (1000 * x17)) (ov2 f5 x7 n9 f9 n11 f11 x14 x15 x16 x17) k).1 (Bs (aa [Ty.sl ae] f5) x7 n9 (aa ae f9) n11 (aa ae f11) (i64.wrap (1000 * x14)) (i64.wrap (1000 * x15)) (i64.wrap (1000 * x16)) (i64.wrap (1000 * x17)) (ov2 f5 x7 n9 f9 n11 f11 x14 x15 x16 x17) k).2 (BO (aa [Ty.sl ae] f5) x7 n9 (aa ae f9) n11 (aa ae f11) (i64.wrap (1000 * x16)) (i64.wrap (1000 * x17)) (ay (f9 k)) (Bs (aa [Ty.sl ae] f5) x7 n9 (aa ae f9) n11 (aa ae f11) (i64.wrap (1000 * x14)) (i64.wrap (1000 * x15)) (i64.wrap (1000 * x16)) (i64.wrap (1000 * x17)) (ov2 f5 x7 n9 f9 n11 f11 x14 x15 x16 x17) k)) ih 0 (Nat.zero_le _)
   refine ⟨N+1,fun l=>?_⟩
   refine (show aN (qt (eZ s0 n1 f1 n3 f3 n5 f5 x7 x8 n9 f9 n11 f11 x13 x14 x15 x16 x17) N) _ _ from ?_)
   refine fA (dqt (by omega)) (IS (dqt (by omega)) (fun a=>zf fun l5=>?_) (fun a=>?_))
   ·rw [Int.toNat_natCast]
    exact (B7 (HO hp) hp (fun h0 h1=>bk fun _=>aH (by
     have q:=nx l5 l
     rw [Cj h0 h1] at q
     exact q)) (fun h0 h1=>bk fun _=>aH (by
     have q:=nx l5 l
     rw [Ca h0 h1] at q
     exact q)) (fun h0 h1=>bk fun _=>aH (by
     have q:=nx l5 l
     rw [Bj h0 h1] at q
     exact q)) (fun h0 h1=>bk fun _=>aH (by
     have q:=nx l5 l
     rw [CH h0 h1] at q
     exact q)))
   ·exact absurd (hc.symm.trans a) (by decide)
  ·have hc:=Bool.eq_false_iff.2 hc
   rw [Wu hc] at ih
   obtain ⟨N,ih⟩:=ih
   refine ⟨N+1,fun l=>?_⟩
   refine (show aN (qt (eZ s0 n1 f1 n3 f3 n5 f5 x7 x8 n9 f9 n11 f11 x13 x14 x15 x16 x17) N) _ _ from ?_)
   refine fA (dqt (by omega)) (IS (dqt (by omega)) (fun a=>?_) (fun a=>aQ (ih l)))
   exact absurd (hc.symm.trans a) (by decide)
 ·have e:k=n9:=by omega
  refine ⟨1,fun l=>?_⟩
  refine (show aN (qt (eZ s0 n1 f1 n3 f3 n5 f5 x7 x8 n9 f9 n11 f11 x13 x14 x15 x16 x17) 0) _ _ from ?_)
  refine ft (jx (by omega)) ?_
  rw [e]
  exact evRet rfl
theorem Ru :∀ k,k<=n11->∃ N,∀ l0 n4 i5 n6 i7 i8,qt (eZ s0 n1 f1 n3 f3 n5 f5 x7 x8 n9 f9 n11 f11 x13 x14 x15 x16 x17) N (.L4 (k:Int) l0 (yH (aa [Ty.sl ae] f5) x7 n9 (aa ae f9) n11 (aa ae f11) (i64.wrap (1000 * x16)) (i64.wrap (1000 * x17)) (i64.wrap (1000 * x15)) (BO (aa [Ty.sl ae] f5) x7 n9 (aa ae f9) n11 (aa ae f11) (i64.wrap (1000 * x16)) (i64.wrap (1000 * x17)) (i64.wrap (1000 * x15)) (QB f5 x7 n9 f9 n11 f11 x14 x15 x16 x17)) k).1 (yH (aa [Ty.sl ae] f5) x7 n9 (aa ae f9) n11 (aa ae f11) (i64.wrap (1000 * x16)) (i64.wrap (1000 * x17)) (i64.wrap (1000 * x15)) (BO (aa [Ty.sl ae] f5) x7 n9 (aa ae f9) n11 (aa ae f11) (i64.wrap (1000 * x16)) (i64.wrap (1000 * x17)) (i64.wrap (1000 * x15)) (QB f5 x7 n9 f9 n11 f11 x14 x15 x16 x17)) k).2 n4 i5 n6 i7 i8) (.agg [.int .i64 (ge (aa [Ty.sl ae] f5) x7 n9 (aa ae f9) n11 (aa ae f11) x14 x15 x16 x17),.int .i64 (gf (aa [Ty.sl ae] f5) x7 n9 (aa ae f9) n11 (aa ae f11) x14 x15 x16 x17)]):=by
 refine dH fun k hk ih=>?_
 have hb:=hp.b
 by_cases hlt:k < n11
 ·have hw:i64.wrap ((k:Int)+1)=((k+1:Nat):Int):=by rw [wrapI (by omega) (by omega)]; omega
  obtain ⟨N,ih⟩:=ih hlt
  refine ⟨N+1,fun l0 n4 i5 n6 i7 i8=>?_⟩
  have ih:=ih l0 n4 i5 n6 i7 i8
  refine (show aN (qt (eZ s0 n1 f1 n3 f3 n5 f5 x7 x8 n9 f9 n11 f11 x13 x14 x15 x16 x17) N) _ _ from ?_)
  refine fA (dqt (by omega)) (PT (d:=true) (dqt (by omega)) (HO hp) hp (fun a e=>aQ ?_) (fun a e=>aQ ?_) (fun a=>aQ ?_))
  ·rw [hw]
   have e:bc n9 (aa ae f9) n11 (aa ae f11) (i64.wrap (1000 * x15)) (ay ((aa ae f11) k))=true:=e
   rw [tx (f11:=(aa ae f11)) (k:=k) a,nG e] at ih
   exact ih
  ·rw [hw]
   have e:bc n9 (aa ae f9) n11 (aa ae f11) (i64.wrap (1000 * x15)) (ay ((aa ae f11) k))=false:=e
   rw [tx (f11:=(aa ae f11)) (k:=k) a,pT e] at ih
   exact ih
  ·rw [hw]
   rw [Fs (f11:=(aa ae f11)) (k:=k) a] at ih
   exact ih
 ·have e:k=n11:=by omega
  obtain ⟨M,nx⟩:=Si s0 n1 f1 n3 f3 n5 f5 x7 x8 n9 f9 n11 f11 x13 x14 x15 x16 x17 hp 0 (Nat.zero_le _)
  refine ⟨M+1,fun l0 n4 i5 n6 i7 i8=>?_⟩
  refine (show aN (qt (eZ s0 n1 f1 n3 f3 n5 f5 x7 x8 n9 f9 n11 f11 x13 x14 x15 x16 x17) M) _ _ from ?_)
  refine ft (jx (by omega)) ?_
  rw [e]
  exact bk fun _=>aH (nx n4)
theorem Re :∀ k,k<=n11->∃ N,∀ l0 n4,qt (eZ s0 n1 f1 n3 f3 n5 f5 x7 x8 n9 f9 n11 f11 x13 x14 x15 x16 x17) N (.L0 (k:Int) l0 (yH (aa [Ty.sl ae] f5) x7 n9 (aa ae f9) n11 (aa ae f11) (i64.wrap (1000 * x16)) (i64.wrap (1000 * x17)) (i64.wrap (1000 * x14)) (BO (aa [Ty.sl ae] f5) x7 n9 (aa ae f9) n11 (aa ae f11) (i64.wrap (1000 * x16)) (i64.wrap (1000 * x17)) (i64.wrap (1000 * x14)) (ov0 f5 x7 n9 f9 n11 f11 x14 x15 x16 x17)) k).1 (yH (aa [Ty.sl ae] f5) x7 n9 (aa ae f9) n11 (aa ae f11) (i64.wrap (1000 * x16)) (i64.wrap (1000 * x17)) (i64.wrap (1000 * x14)) (BO (aa [Ty.sl ae] f5) x7 n9 (aa ae f9) n11 (aa ae f11) (i64.wrap (1000 * x16)) (i64.wrap (1000 * x17)) (i64.wrap (1000 * x14)) (ov0 f5 x7 n9 f9 n11 f11 x14 x15 x16 x17)) k).2 n4) (.agg [.int .i64 (ge (aa [Ty.sl ae] f5) x7 n9 (aa ae f9) n11 (aa ae f11) x14 x15 x16 x17),.int .i64 (gf (aa [Ty.sl ae] f5) x7 n9 (aa ae f9) n11 (aa ae f11) x14 x15 x16 x17)]):=by
 refine dH fun k hk ih=>?_
 have hb:=hp.b
 by_cases hlt:k < n11
 ·have hw:i64.wrap ((k:Int)+1)=((k+1:Nat):Int):=by rw [wrapI (by omega) (by omega)]; omega
  obtain ⟨N,ih⟩:=ih hlt
  refine ⟨N+1,fun l0 n4=>?_⟩
  have ih:=ih l0 n4
  refine (show aN (qt (eZ s0 n1 f1 n3 f3 n5 f5 x7 x8 n9 f9 n11 f11 x13 x14 x15 x16 x17) N) _ _ from ?_)
  refine fA (dqt (by omega)) (PT (d:=true) (dqt (by omega)) (HO hp) hp (fun a e=>aQ ?_) (fun a e=>aQ ?_) (fun a=>aQ ?_))
  ·rw [hw]
   have e:bc n9 (aa ae f9) n11 (aa ae f11) (i64.wrap (1000 * x14)) (ay ((aa ae f11) k))=true:=e
   rw [tx (f11:=(aa ae f11)) (k:=k) a,nG e] at ih
   exact ih
  ·rw [hw]
   have e:bc n9 (aa ae f9) n11 (aa ae f11) (i64.wrap (1000 * x14)) (ay ((aa ae f11) k))=false:=e
   rw [tx (f11:=(aa ae f11)) (k:=k) a,pT e] at ih
   exact ih
  ·rw [hw]
   rw [Fs (f11:=(aa ae f11)) (k:=k) a] at ih
   exact ih
 ·have e:k=n11:=by omega
  obtain ⟨M,nx⟩:=Ru s0 n1 f1 n3 f3 n5 f5 x7 x8 n9 f9 n11 f11 x13 x14 x15 x16 x17 hp 0 (Nat.zero_le _)
  refine ⟨M+1,fun l0 n4=>?_⟩
  refine (show aN (qt (eZ s0 n1 f1 n3 f3 n5 f5 x7 x8 n9 f9 n11 f11 x13 x14 x15 x16 x17) M) _ _ from ?_)
  refine ft (jx (by omega)) ?_
  rw [e]
  exact zf fun l4=>(B7 (HO hp) hp (fun h0 h1=>bk fun _=>aH (by
   have q:=nx l4 n4 (n11:Int) l0 (QB f5 x7 n9 f9 n11 f11 x14 x15 x16 x17).1 (QB f5 x7 n9 f9 n11 f11 x14 x15 x16 x17).2
   rw [Cj h0 h1] at q
   exact q)) (fun h0 h1=>bk fun _=>aH (by
   have q:=nx l4 n4 (n11:Int) l0 (QB f5 x7 n9 f9 n11 f11 x14 x15 x16 x17).1 (QB f5 x7 n9 f9 n11 f11 x14 x15 x16 x17).2
   rw [Ca h0 h1] at q
   exact q)) (fun h0 h1=>bk fun _=>aH (by
   have q:=nx l4 n4 (n11:Int) l0 (QB f5 x7 n9 f9 n11 f11 x14 x15 x16 x17).1 (QB f5 x7 n9 f9 n11 f11 x14 x15 x16 x17).2
   rw [Bj h0 h1] at q
   exact q)) (fun h0 h1=>bk fun _=>aH (by
   have q:=nx l4 n4 (n11:Int) l0 (QB f5 x7 n9 f9 n11 f11 x14 x15 x16 x17).1 (QB f5 x7 n9 f9 n11 f11 x14 x15 x16 x17).2
   rw [CH h0 h1] at q
   exact q)))
end
section
variable (s0:ByteArray) (n1:Nat) (f1:ah) (n3:Nat) (f3:ah) (n5:Nat) (f5:ah) (x7 x8:Int) (n9:Nat) (f9:ah) (n11:Nat) (f11:ah) (x13 x14 x15 x16 x17:Int) (hp:pX n5 (aa [.sl ae] f5) n9 (aa ae f9) n11 (aa ae f11))
include s0 n1 f1 n3 f3 n5 f5 x7 x8 n9 f9 n11 f11 x13 x14 x15 x16 x17 hp
theorem O2:aN (Ev (eZ s0 n1 f1 n3 f3 n5 f5 x7 x8 n9 f9 n11 f11 x13 x14 x15 x16 x17)) (Ik s0 n1 f1 n3 f3 n5 f5 x7 x8 n9 f9 n11 f11 x13 x14 x15 x16 x17) (.agg [.int .i64 (ge (aa [.sl ae] f5) x7 n9 (aa ae f9) n11 (aa ae f11) x14 x15 x16 x17),.int .i64 (gf (aa [.sl ae] f5) x7 n9 (aa ae f9) n11 (aa ae f11) x14 x15 x16 x17)]):=by
 obtain ⟨N,hN⟩:=Re s0 n1 f1 n3 f3 n5 f5 x7 x8 n9 f9 n11 f11 x13 x14 x15 x16 x17 hp 0 (Nat.zero_le _)
 exact aC hp (af (aC hp (af (aC hp (af (aC hp (af (av (af (zf fun l4=>zf fun l0=>(B7 (HO hp) hp (fun h0 h1=>bk fun _=>aH (by
  have q:=hN l0 l4
  rw [Cj h0 h1] at q
  exact ⟨N,q⟩)) (fun h0 h1=>bk fun _=>aH (by
  have q:=hN l0 l4
  rw [Ca h0 h1] at q
  exact ⟨N,q⟩)) (fun h0 h1=>bk fun _=>aH (by
  have q:=hN l0 l4
  rw [Bj h0 h1] at q
  exact ⟨N,q⟩)) (fun h0 h1=>bk fun _=>aH (by
  have q:=hN l0 l4
  rw [CH h0 h1] at q
  exact ⟨N,q⟩)))))))))))))
theorem acS:aN (Ev (eZ s0 n1 f1 n3 f3 n5 f5 x7 x8 n9 f9 n11 f11 x13 x14 x15 x16 x17)) (Ik s0 n1 f1 n3 f3 n5 f5 x7 x8 n9 f9 n11 f11 x13 x14 x15 x16 x17) (.agg [.int .i64 (ge (aa [.sl ae] f5) x7 n9 (aa ae f9) n11 (aa ae f11) x14 x15 x16 x17),.int .i64 (gf (aa [.sl ae] f5) x7 n9 (aa ae f9) n11 (aa ae f11) x14 x15 x16 x17)]):=O2 s0 n1 f1 n3 f3 n5 f5 x7 x8 n9 f9 n11 f11 x13 x14 x15 x16 x17 hp
end
def X1:aB:=bI [.agg [.str,.sl ae,.sl ae,.sl [.sl ae],tI,tI,.sl ae,.sl ae,tI],.agg iu] (fun
 | [.agg [.str s0,.sl n1 f1,.sl n3 f3,.sl n5 f5,.int _ x7,.int _ x8,.sl n9 f9,.sl n11 f11,.int _ x13],.agg [.int _ x14,.int _ x15,.int _ x16,.int _ x17]]=>pX n5 f5 n9 f9 n11 f11
 | _=>False) fun
 | [.agg [.str s0,.sl n1 f1,.sl n3 f3,.sl n5 f5,.int _ x7,.int _ x8,.sl n9 f9,.sl n11 f11,.int _ x13],.agg [.int _ x14,.int _ x15,.int _ x16,.int _ x17]]=>.agg [.int .i64 (ge f5 x7 n9 f9 n11 f11 x14 x15 x16 x17),.int .i64 (gf f5 x7 n9 f9 n11 f11 x14 x15 x16 x17)]
 | _=>.any
theorem adI:(vP X1).Ok Tryz.prog 90:=bY N9 Tryz.func90 (by kernel_rfl) fun ds hp=>jE (SU ..) (acS _ _ _ _ _ _ _ _ _ _ _ _ _ _ _ _ _ _ hp)
def Dv:bd:=(90,.con X1)::uQ
theorem Bi:aR Tryz.prog eqs its Dv:=.con adI (N9)
def W6 (s0:ByteArray) (x1 x2 x3 x4 x5 x6 x7 x8 x9 x10 x11 x12 x13 x14 x15 x16:Int):RT Empty:=.obc (.obt (.obc (.obt (.ret (V.agg [vi (mo x3 x8 x10 x14 x15 x16),vi (mr x3 x7 x9 x14 x15 x16)])))))
theorem R5 (s0:ByteArray) (x1 x2 x3 x4 x5 x6 x7 x8 x9 x10 x11 x12 x13 x14 x15 x16:Int):dh dm (aS JJ Dv u0 WS [V.agg [V.str s0,vi x1,vi x2,vi x3,vi x4,vi x5,vi x6,vi x7,vi x8,vi x9,vi x10,vi x11,vi x12,vi x13],V.agg [vi x14,vi x15,vi x16]]) (W6 s0 x1 x2 x3 x4 x5 x6 x7 x8 x9 x10 x11 x12 x13 x14 x15 x16):=⟨by kernel_rfl,by kernel_rfl⟩
def nl (x3 x8 x10 x14 x15 x16:Int):Int:=mo x3 x8 x10 x14 x15 x16
def nk (x3 x7 x9 x14 x15 x16:Int):Int:=mr x3 x7 x9 x14 x15 x16
def Ls (s0:ByteArray) (x1 x2 x3 x4 x5 x6 x7 x8 x9 x10 x11 x12 x13 x14 x15 x16:Int):V:=.agg [.int i64 (nl x3 x8 x10 x14 x15 x16),.int i64 (nk x3 x7 x9 x14 x15 x16)]
theorem aaC (s0:ByteArray) (x1 x2 x3 x4 x5 x6 x7 x8 x9 x10 x11 x12 x13 x14 x15 x16:Int):aN cr (W6 s0 x1 x2 x3 x4 x5 x6 x7 x8 x9 x10 x11 x12 x13 x14 x15 x16) (Ls s0 x1 x2 x3 x4 x5 x6 x7 x8 x9 x10 x11 x12 x13 x14 x15 x16):=av (af (av (af (evRet (by unfold Ls nl nk; rfl)))))
def W2:aB:=bI [.agg am,.agg bG] (fun _=>True) fun
 | [.agg [.str s0,.int _ x1,.int _ x2,.int _ x3,.int _ x4,.int _ x5,.int _ x6,.int _ x7,.int _ x8,.int _ x9,.int _ x10,.int _ x11,.int _ x12,.int _ x13],.agg [.int _ x14,.int _ x15,.int _ x16]]=>Ls s0 x1 x2 x3 x4 x5 x6 x7 x8 x9 x10 x11 x12 x13 x14 x15 x16
 | _=>.any
theorem aeV:(vP W2).Ok Tryz.prog 88:=bY Bi Tryz.func88 (by kernel_rfl) fun ds hp=>dG (R5 ..) (aaC _ _ _ _ _ _ _ _ _ _ _ _ _ _ _ _ _)
def XR (s0:ByteArray) (x1 x2 x3 x4 x5 x6 x7 x8 x9 x10 x11 x12 x13 x14 x15 x16:Int):RT Empty:=.obp ((1000000:Int)=(0:Int)->False) (.obt (.obp ((1000:Int)=(0:Int)->False) (.obt (.obp ((1000000:Int)=(0:Int)->False) (.obt (.obp ((1000:Int)=(0:Int)->False) (.obt (.obp ((1000:Int)=(0:Int)->False) (.obt (.obp ((1000:Int)=(0:Int)->False) (.obt (.ret (V.agg [vi (cX (i64.wrap (cX (i64.wrap (cX (i64.wrap (x3 * max 0 (i64.wrap (1000000 - i64.wrap (x8 * x14))))) 1000000 * max 0 (i64.wrap (1000 - i64.wrap (x10 * x15))))) 1000 * x16)) 1000),vi (dM (i64.wrap (dM (i64.wrap (dM (i64.wrap (x3 * max 0 (i64.wrap (1000000 - i64.wrap (x7 * x14))))) 1000000 * max 0 (i64.wrap (1000 - i64.wrap (x9 * x15))))) 1000 * x16)) 1000)])))))))))))))
theorem SX (s0:ByteArray) (x1 x2 x3 x4 x5 x6 x7 x8 x9 x10 x11 x12 x13 x14 x15 x16:Int):dh dm (aS JJ Dv u0 agp [V.agg [V.str s0,vi x1,vi x2,vi x3,vi x4,vi x5,vi x6,vi x7,vi x8,vi x9,vi x10,vi x11,vi x12,vi x13],V.agg [vi x14,vi x15,vi x16]]) (XR s0 x1 x2 x3 x4 x5 x6 x7 x8 x9 x10 x11 x12 x13 x14 x15 x16):=⟨by kernel_rfl,by kernel_rfl⟩
def mP (x3 x8 x10 x14 x15 x16:Int):Int:=cX (i64.wrap (cX (i64.wrap (cX (i64.wrap (x3 * max 0 (i64.wrap (1000000 - i64.wrap (x8 * x14))))) 1000000 * max 0 (i64.wrap (1000 - i64.wrap (x10 * x15))))) 1000 * x16)) 1000
def m9 (x3 x7 x9 x14 x15 x16:Int):Int:=dM (i64.wrap (dM (i64.wrap (dM (i64.wrap (x3 * max 0 (i64.wrap (1000000 - i64.wrap (x7 * x14))))) 1000000 * max 0 (i64.wrap (1000 - i64.wrap (x9 * x15))))) 1000 * x16)) 1000
def K1 (s0:ByteArray) (x1 x2 x3 x4 x5 x6 x7 x8 x9 x10 x11 x12 x13 x14 x15 x16:Int):V:=.agg [.int i64 (mP x3 x8 x10 x14 x15 x16),.int i64 (m9 x3 x7 x9 x14 x15 x16)]
theorem abY (s0:ByteArray) (x1 x2 x3 x4 x5 x6 x7 x8 x9 x10 x11 x12 x13 x14 x15 x16:Int):aN cr (XR s0 x1 x2 x3 x4 x5 x6 x7 x8 x9 x10 x11 x12 x13 x14 x15 x16) (K1 s0 x1 x2 x3 x4 x5 x6 x7 x8 x9 x10 x11 x12 x13 x14 x15 x16):=aC (by first | assumption | (decide)) (af (aC (by first | assumption | (decide)) (af (aC (by first | assumption | (decide)) (af (aC (by first | assumption | (decide)) (af (aC (by first | assumption | (decide)) (af (aC (by first | assumption | (decide)) (af (evRet (by unfold K1 mP m9; rfl)))))))))))))
def X2:aB:=bI [.agg am,.agg bG] (fun _=>True) fun
 | [.agg [.str s0,.int _ x1,.int _ x2,.int _ x3,.int _ x4,.int _ x5,.int _ x6,.int _ x7,.int _ x8,.int _ x9,.int _ x10,.int _ x11,.int _ x12,.int _ x13],.agg [.int _ x14,.int _ x15,.int _ x16]]=>K1 s0 x1 x2 x3 x4 x5 x6 x7 x8 x9 x10 x11 x12 x13 x14 x15 x16
 | _=>.any
theorem aaP:(vP X2).Ok Tryz.prog 179:=bY Bi Tryz.func179 (by kernel_rfl) fun ds hp=>dG (SX ..) (abY _ _ _ _ _ _ _ _ _ _ _ _ _ _ _ _ _)
theorem Pv (a b c d e f:Int):nl a b c d e f=mP a b c d e f:=by
 unfold nl mP mo
 rw [Int.max_comm 0,Int.max_comm 0]
 rfl
theorem Il (a b c d e f:Int):nk a b c d e f=m9 a b c d e f:=by
 unfold nk m9 mr
 rw [Int.max_comm 0,Int.max_comm 0]
 rfl
def yaF:bd:=(88,.con W2)::(179,.con X2)::Dv
theorem BD:aR Tryz.prog eqs its yaF:=.con aeV (.con aaP (Bi))
section
variable (n0:Nat) (f0:ah) (n2:Nat) (f2:ah) (x4:Int)
include n0 f0 n2 f2 x4
def Ym:RT Empty:=.obp ((∀ (i:Nat),i < n0->(sv (hdV (f0 i))).size<=(9223372036854775807:Nat))/\∀ (i:Nat),i < n2->(sv (hdV (f2 i))).size<=(9223372036854775807:Nat)) (.obt (.obi (.obi (.asm ((b8 n0 (aa al f0) n2 (aa am f2) == 0)=true->n2<=9223372036854775807) (.obi (.br (b8 n0 (aa al f0) n2 (aa am f2) == 0) (.ob (b8 n0 (aa al f0) n2 (aa am f2) == 0) (.ob (b8 n0 (aa al f0) n2 (aa am f2) == 0) (.obc (.obt (.br (!aA x4 0 (i64.wrap ((↑n2:Int) - 1))) (.ret (vi 4)) (.ret (vi (b8 n0 (aa al f0) n2 (aa am f2))))))))) (.ret (vi (b8 n0 (aa al f0) n2 (aa am f2))))))))))
theorem SA:dh dm (aS JJ yaF u0 akn [V.agg [V.sl n0 (aa al f0),V.sl n2 (aa am f2)],vi x4]) (Ym n0 f0 n2 f2 x4):=⟨by kernel_rfl,by kernel_rfl⟩
def ed:Int:=bif b8 n0 (aa al f0) n2 (aa am f2) == 0 then bif !aA x4 0 (i64.wrap ((↑n2:Int) - 1)) then 4 else b8 n0 (aa al f0) n2 (aa am f2) else b8 n0 (aa al f0) n2 (aa am f2)
def zV:V:=.int i64 (ed n0 f0 n2 f2 x4)
theorem adD (hp:aE n0 f0/\aE n2 f2):aN cr (Ym n0 f0 n2 f2 x4) (zV n0 f0 n2 f2 x4):=aC (by first | assumption | (exact hp)) (af (evObi (evObi (evAsm (fun a0=>evObi (evBr (fun h0=>aM (by first | assumption | (fail)) (aM (by first | assumption | (fail)) (av (af (evBr (fun h1=>evRet (by unfold zV ed; try rw [h0]; try rw [h1]; rfl)) (fun h1=>evRet (by unfold zV ed; try rw [h0]; try rw [h1]; rfl))))))) (fun h0=>evRet (by unfold zV ed; try rw [h0]; rfl))))))))
end
def Yf:aB:=bI [.agg [.sl al,.sl am],tI] (fun
 | [.agg [.sl n0 f0,.sl n2 f2],.int _ x4]=>aE n0 f0/\aE n2 f2
 | _=>False) fun
 | [.agg [.sl n0 f0,.sl n2 f2],.int _ x4]=>zV n0 f0 n2 f2 x4
 | _=>.any
theorem acC:(vP Yf).Ok Tryz.prog 177:=bY BD Tryz.func177 (by kernel_rfl) fun ds hp=>dG (SA ..) (adD _ _ _ _ _ hp)
theorem inT {x:Int} {n:Nat} (hn:n<=9223372036854775807) (h:(!ar x 0 (i64.wrap ((n:Int) - 1)))=false):decide (0<=x/\x < (n:Int))=true:=by
 rw [wrapI (by omega) (by omega)] at h
 unfold ar at h
 refine dqt ?_
 by_cases h1:0<=x
 ·by_cases h2:x<=(n:Int) - 1
  ·omega
  ·rw [dqt h1,jx h2] at h; simp at h
 ·rw [jx h1] at h; simp at h
section
variable (n0:Nat) (f0:ah) (n2:Nat) (f2:ah) (x4:Int)
include n0 f0 n2 f2 x4
def YB:RT Empty:=.obp ((∀ (i:Nat),i < n0->(sv (hdV (f0 i))).size<=(9223372036854775807:Nat))/\∀ (i:Nat),i < n2->(sv (hdV (f2 i))).size<=(9223372036854775807:Nat)) (.obt (.br (bC n0 (aa al f0) n2 (aa am f2) != 0) (.ret (V.tup [V.agg [V.str (ByteArray.mk (Array.mk [])),vi 0,vi 0,vi 0,vi 0,vi 0,vi 0,vi 0,vi 0,vi 0,vi 0,vi 0,vi 0,vi 0],vi (bC n0 (aa al f0) n2 (aa am f2))])) (.asm (true=true->n2<=9223372036854775807) (.obc (.obt (.br (!ar x4 0 (i64.wrap ((↑n2:Int) - 1))) (.ret (V.tup [V.agg [V.str (ByteArray.mk (Array.mk [])),vi 0,vi 0,vi 0,vi 0,vi 0,vi 0,vi 0,vi 0,vi 0,vi 0,vi 0,vi 0,vi 0],vi 4])) (.ob (decide (0<=x4/\x4 < (↑n2:Int))) (.ret (V.tup [V.agg [V.str (sv (hdV (f2 x4.toNat))),vi (ba (f2 x4.toNat)),vi (cQ (f2 x4.toNat)),vi (cM (f2 x4.toNat)),vi (cv (f2 x4.toNat)),vi (be (f2 x4.toNat)),vi (be (ab (f2 x4.toNat))),vi (be (ab (ab (f2 x4.toNat)))),vi (be (ab (ab (ab (f2 x4.toNat))))),vi (be (ab (ab (ab (ab (f2 x4.toNat)))))),vi (be (ab (ab (ab (ab (ab (f2 x4.toNat))))))),vi (be (ab (ab (ab (ab (ab (ab (f2 x4.toNat)))))))),vi (be (ab (ab (ab (ab (ab (ab (ab (f2 x4.toNat))))))))),vi (be (ab (ab (ab (ab (ab (ab (ab (ab (f2 x4.toNat))))))))))],vi 0])))))))))
theorem Vz:dh dm (aS JJ yaF u0 Y5 [V.agg [V.sl n0 (aa al f0),V.sl n2 (aa am f2)],vi x4]) (YB n0 f0 n2 f2 x4):=⟨by kernel_rfl,by kernel_rfl⟩
def r9:ByteArray:=bif bC n0 (aa al f0) n2 (aa am f2) != 0 then ByteArray.mk (Array.mk []) else bif !ar x4 0 (i64.wrap ((↑n2:Int) - 1)) then ByteArray.mk (Array.mk []) else sv (hdV (f2 x4.toNat))
def bq:Int:=bif bC n0 (aa al f0) n2 (aa am f2) != 0 then 0 else bif !ar x4 0 (i64.wrap ((↑n2:Int) - 1)) then 0 else ba (f2 x4.toNat)
def sK:Int:=bif bC n0 (aa al f0) n2 (aa am f2) != 0 then 0 else bif !ar x4 0 (i64.wrap ((↑n2:Int) - 1)) then 0 else cQ (f2 x4.toNat)
def gS:Int:=bif bC n0 (aa al f0) n2 (aa am f2) != 0 then 0 else bif !ar x4 0 (i64.wrap ((↑n2:Int) - 1)) then 0 else cM (f2 x4.toNat)
def sj:Int:=bif bC n0 (aa al f0) n2 (aa am f2) != 0 then 0 else bif !ar x4 0 (i64.wrap ((↑n2:Int) - 1)) then 0 else cv (f2 x4.toNat)
def r6:Int:=bif bC n0 (aa al f0) n2 (aa am f2) != 0 then 0 else bif !ar x4 0 (i64.wrap ((↑n2:Int) - 1)) then 0 else be (f2 x4.toNat)
def yam:Int:=bif bC n0 (aa al f0) n2 (aa am f2) != 0 then 0 else bif !ar x4 0 (i64.wrap ((↑n2:Int) - 1)) then 0 else be (ab (f2 x4.toNat))
def jV:Int:=bif bC n0 (aa al f0) n2 (aa am f2) != 0 then 0 else bif !ar x4 0 (i64.wrap ((↑n2:Int) - 1)) then 0 else be (ab (ab (f2 x4.toNat)))
def jK:Int:=bif bC n0 (aa al f0) n2 (aa am f2) != 0 then 0 else bif !ar x4 0 (i64.wrap ((↑n2:Int) - 1)) then 0 else be (ab (ab (ab (f2 x4.toNat))))
def j8:Int:=bif bC n0 (aa al f0) n2 (aa am f2) != 0 then 0 else bif !ar x4 0 (i64.wrap ((↑n2:Int) - 1)) then 0 else be (ab (ab (ab (ab (f2 x4.toNat)))))
def ij:Int:=bif bC n0 (aa al f0) n2 (aa am f2) != 0 then 0 else bif !ar x4 0 (i64.wrap ((↑n2:Int) - 1)) then 0 else be (ab (ab (ab (ab (ab (f2 x4.toNat))))))
def qi:Int:=bif bC n0 (aa al f0) n2 (aa am f2) != 0 then 0 else bif !ar x4 0 (i64.wrap ((↑n2:Int) - 1)) then 0 else be (ab (ab (ab (ab (ab (ab (f2 x4.toNat)))))))
def pW:Int:=bif bC n0 (aa al f0) n2 (aa am f2) != 0 then 0 else bif !ar x4 0 (i64.wrap ((↑n2:Int) - 1)) then 0 else be (ab (ab (ab (ab (ab (ab (ab (f2 x4.toNat))))))))
def oZ:Int:=bif bC n0 (aa al f0) n2 (aa am f2) != 0 then 0 else bif !ar x4 0 (i64.wrap ((↑n2:Int) - 1)) then 0 else be (ab (ab (ab (ab (ab (ab (ab (ab (f2 x4.toNat)))))))))
def bX:Int:=bif bC n0 (aa al f0) n2 (aa am f2) != 0 then bC n0 (aa al f0) n2 (aa am f2) else bif !ar x4 0 (i64.wrap ((↑n2:Int) - 1)) then 4 else 0
def AI:V:=.tup [.agg [.str (r9 n0 f0 n2 f2 x4),.int i64 (bq n0 f0 n2 f2 x4),.int i64 (sK n0 f0 n2 f2 x4),.int i64 (gS n0 f0 n2 f2 x4),.int i64 (sj n0 f0 n2 f2 x4),.int i64 (r6 n0 f0 n2 f2 x4),.int i64 (yam n0 f0 n2 f2 x4),.int i64 (jV n0 f0 n2 f2 x4),.int i64 (jK n0 f0 n2 f2 x4),.int i64 (j8 n0 f0 n2 f2 x4),.int i64 (ij n0 f0 n2 f2 x4),.int i64 (qi n0 f0 n2 f2 x4),.int i64 (pW n0 f0 n2 f2 x4),.int i64 (oZ n0 f0 n2 f2 x4)],.int i64 (bX n0 f0 n2 f2 x4)]
theorem ac8 (hp:aE n0 f0/\aE n2 f2):aN cr (YB n0 f0 n2 f2 x4) (AI n0 f0 n2 f2 x4):=aC (by first | assumption | (exact hp)) (af (evBr (fun h0=>evRet (by unfold AI r9 bq sK gS sj r6 yam jV jK j8 ij qi pW oZ bX; try rw [h0]; rfl)) (fun h0=>evAsm (fun a1=>av (af (evBr (fun h1=>evRet (by unfold AI r9 bq sK gS sj r6 yam jV jK j8 ij qi pW oZ bX; try rw [h0]; try rw [h1]; rfl)) (fun h1=>aM (by first | assumption | ((exact inT (a1 rfl) h1))) (evRet (by unfold AI r9 bq sK gS sj r6 yam jV jK j8 ij qi pW oZ bX; try rw [h0]; try rw [h1]; rfl)))))))))
end
def YF:aB:=bI [.agg [.sl al,.sl am],tI] (fun
 | [.agg [.sl n0 f0,.sl n2 f2],.int _ x4]=>aE n0 f0/\aE n2 f2
 | _=>False) fun
 | [.agg [.sl n0 f0,.sl n2 f2],.int _ x4]=>AI n0 f0 n2 f2 x4
 | _=>.any
theorem aet:(vP YF).Ok Tryz.prog 85:=bY BD Tryz.func85 (by kernel_rfl) fun ds hp=>dG (Vz ..) (ac8 _ _ _ _ _ hp)
structure nm (n:Nat) (f:Nat->List V):Prop where
 r:∀ i,i < n->-5000<=ay (f i)/\ay (f i)<=5000
 u:∀ i,i+1 < n->ay (f i) < ay (f (i+1))
theorem ahA {n:Nat} {f g:Nat->List V} (hn:n<=12) (e:∀ i,ay (g i)=ay (f i)) (h1:jo n g=true) (h2:dZ n g=true):nm n f:=by
 refine ⟨fun i hi=>?_,fun i hi=>?_⟩
 ·have:=dQ h1 i hi
  have:=u7 this
  rw [e] at this
  exact this
 ·have:=dQ h2 (i+1) hi
  have:decide (ay (g i) < ay (g (i+1)))=true:=by
   unfold QL at this
   rw [wrapI (by omega) (by omega),show ((((i+1:Nat):Int) == 0)=false) from by simp; omega] at this
   have h3:decide (ay (g ((((i+1:Nat):Int) - 1).toNat)) < ay (g (((i+1:Nat):Int).toNat)))=true:=this
   rw [show (((i+1:Nat):Int) - 1).toNat=i by omega,show ((i+1:Nat):Int).toNat=i+1 by omega] at h3
   exact h3
  have:=of_decide_eq_true this
  rw [e,e] at this
  exact this
theorem acA {f0:Nat->List V} {a:Nat} (h:ga (aa al f0) a=0):nm (au (hdV (ab (f0 a)))) (bj (hdV (ab (f0 a))))/\nm (au (hdV (ab (ab (f0 a))))) (bj (hdV (ab (ab (f0 a))))):=by
 have t:=Bn h
 unfold ga at h
 obtain ⟨_,h⟩:=jp h (by decide)
 obtain ⟨_,h⟩:=jp h (by decide)
 unfold Bz at h
 obtain ⟨_,h⟩:=jp h (by decide)
 obtain ⟨h1,h⟩:=jp h (by decide)
 obtain ⟨h2,_⟩:=jp h (by decide)
 obtain ⟨r1,r2⟩:=I9 h1
 obtain ⟨u1,u2⟩:=I9 h2
 exact ⟨ahA t.u.2 (fun i=>rfl) r1 u1,ahA t.v.2 (fun i=>rfl) r2 u2⟩
theorem anr {x:List V} {H:Int} (t:nr x) (u:nm (au (hdV (ab x))) (bj (hdV (ab x)))) (v:nm (au (hdV (ab (ab x)))) (bj (hdV (ab (ab x))))) (h:1<=H/\H<=30000) :
 pX (HG x) (va x) (au (hdV (ab x))) (cH (bj (hdV (ab x))) H) (au (hdV (ab (ab x)))) (cH (bj (hdV (ab (ab x)))) H):=by
 have key:∀ {n:Nat} {f:Nat->List V},nm n f->∀ i:Nat,i+1 < n->i64.wrap (ay (cH f H (i+1)) - ay (cH f H i)) ≠ 0:=by
  intro n f w i hi
  have hu:=w.u i hi
  have r0:=w.r i (by omega)
  have r1:=w.r (i+1) hi
  have b:∀ a:Int,-5000<=a/\a<=5000->-150000000<=a * H/\a * H<=150000000:=fun a ha=>by
   have h1:a * H<=5000 * H:=Int.mul_le_mul_of_nonneg_right ha.2 (by omega)
   have h2:(-5000) * H<=a * H:=Int.mul_le_mul_of_nonneg_right ha.1 (by omega)
   omega
  have b0:=b _ r0
  have b1:=b _ r1
  have e:∀ j,ay (cH f H j)=i64.wrap (ay (f j) * H):=fun j=>rfl
  rw [e,e,wrapI (x:=ay (f i) * H) (by omega) (by omega),wrapI (x:=ay (f (i+1)) * H) (by omega) (by omega),wrapI (by omega) (by omega)]
  have:ay (f i) * H < ay (f (i+1)) * H:=Int.mul_lt_mul_of_pos_right hu (by omega)
  omega
 refine ⟨⟨t.u.1,by have:=t.u.2; omega⟩,⟨t.v.1,by have:=t.v.2; omega⟩,by rw [t.n]; exact Nat.le_refl _,fun i hi=>?_,key u,key v⟩
 have:=t.row i hi
 show _<=au (hdV (va x i))
 omega
theorem aiX {n0:Nat} {f0:Nat->List V} {n2:Nat} {f2:Nat->List V} {x4:Int} (h:bX n0 f0 n2 f2 x4=0) :
 (0<=bq n0 f0 n2 f2 x4/\bq n0 f0 n2 f2 x4 < (n0:Int))/\ga (aa al (aa al f0)) (bq n0 f0 n2 f2 x4).toNat=0:=by
 unfold bX at h
 have e:bC n0 (aa al f0) n2 (aa am f2)=0:=by
  by_cases e:bC n0 (aa al f0) n2 (aa am f2)=0
  ·exact e
  ·have:(bC n0 (aa al f0) n2 (aa am f2) != 0)=true:=by simpa using e
   rw [this] at h
   exact h
 have c:=m4 n0 (aa al f0) n2 (aa am f2)
 have v:yj n0 (aa al f0) n2 (aa am f2):=tT (by
  have:=congrArg (fun p=>p.2.2) c
  exact this.symm.trans e)
 have ne:(bC n0 (aa al f0) n2 (aa am f2) != 0)=false:=by rw [e]; rfl
 rw [ne] at h
 have hb:(!ar x4 0 (i64.wrap ((n2:Int) - 1)))=false:=by
  cases hh:(!ar x4 0 (i64.wrap ((n2:Int) - 1))) with
  | false=>rfl
  | true=>rw [hh] at h; cases h
 have l2:=v.l2
 have r:=of_decide_eq_true (inT (by omega) hb)
 have eq:bq n0 f0 n2 f2 x4=ba (f2 x4.toNat):=by
  unfold bq
  rw [ne,hb]; rfl
 have lm:=(OJ (a:=x4.toNat) v.l0 (v.lm x4.toNat (by omega))).t
 have lm:0<=ba (f2 x4.toNat)/\ba (f2 x4.toNat) < (n0:Int):=lm
 rw [eq]
 exact ⟨lm,v.tb _ (by omega)⟩
def Oa:bd:=(177,.con Yf)::(85,.con YF)::yaF
theorem LA:aR Tryz.prog eqs its Oa:=.con acC (.con aet (BD))
section
variable (n0:Nat) (f0:ah) (n2:Nat) (f2:ah) (x4:Int)
include n0 f0 n2 f2 x4
def sE:=fun i=>ao ae (bj (hdV (ab (f0 (bq n0 (aa al f0) n2 (aa am f2) x4).toNat))) i)
def sU:=fun i=>ao ae (bj (hdV (ab (ab (f0 (bq n0 (aa al f0) n2 (aa am f2) x4).toNat)))) i)
def yo (x12:Int):=((2:Nat)<=au (hdV (ab (f0 (bq n0 (aa al f0) n2 (aa am f2) x4).toNat)))/\au (hdV (ab (f0 (bq n0 (aa al f0) n2 (aa am f2) x4).toNat)))<=(1000:Nat))/\((2:Nat)<=au (hdV (ab (ab (f0 (bq n0 (aa al f0) n2 (aa am f2) x4).toNat))))/\au (hdV (ab (ab (f0 (bq n0 (aa al f0) n2 (aa am f2) x4).toNat))))<=(1000:Nat))/\au (hdV (ab (f0 (bq n0 (aa al f0) n2 (aa am f2) x4).toNat)))<=au (hdV (ab (ab (ab (f0 (bq n0 (aa al f0) n2 (aa am f2) x4).toNat)))))/\(∀ (i:Nat),i < au (hdV (ab (ab (ab (f0 (bq n0 (aa al f0) n2 (aa am f2) x4).toNat)))))->au (hdV (ab (ab (f0 (bq n0 (aa al f0) n2 (aa am f2) x4).toNat))))<=au (hdV (bj (hdV (ab (ab (ab (f0 (bq n0 (aa al f0) n2 (aa am f2) x4).toNat))))) i)))/\(∀ (i:Nat),i+(1:Nat) < au (hdV (ab (f0 (bq n0 (aa al f0) n2 (aa am f2) x4).toNat)))->i64.wrap (ay (cH (sE n0 f0 n2 f2 x4) x12 (i+(1:Nat))) - ay (cH (sE n0 f0 n2 f2 x4) x12 i)) ≠ (0:Int))/\∀ (i:Nat),i+(1:Nat) < au (hdV (ab (ab (f0 (bq n0 (aa al f0) n2 (aa am f2) x4).toNat))))->i64.wrap (ay (cH (sU n0 f0 n2 f2 x4) x12 (i+(1:Nat))) - ay (cH (sU n0 f0 n2 f2 x4) x12 i)) ≠ (0:Int)
def sg (x5 x6 x7 x8 x9 x10 x11 x12:Int):RT Empty:=.obp ((1000:Int)=(0:Int)->False) (.obt (.obp ((1000:Int)=(0:Int)->False) (.obt (.ret (V.tup [V.agg [vi (eA (i64.wrap (ge (fun i=>ao [Ty.sl ae] (bj (hdV (ab (ab (ab (f0 (bq n0 (aa al f0) n2 (aa am f2) x4).toNat))))) i)) (cv (f0 (bq n0 (aa al f0) n2 (aa am f2) x4).toNat)) (au (hdV (ab (f0 (bq n0 (aa al f0) n2 (aa am f2) x4).toNat)))) (aa ae (cH (sE n0 f0 n2 f2 x4) x12)) (au (hdV (ab (ab (f0 (bq n0 (aa al f0) n2 (aa am f2) x4).toNat))))) (aa ae (cH (sU n0 f0 n2 f2 x4) x12)) x8 x9 x10 x11 * nl (gS n0 (aa al f0) n2 (aa am f2) x4) (jK n0 (aa al f0) n2 (aa am f2) x4) (ij n0 (aa al f0) n2 (aa am f2) x4) x5 x6 x7)) 1000),vi (fI (i64.wrap (gf (fun i=>ao [Ty.sl ae] (bj (hdV (ab (ab (ab (f0 (bq n0 (aa al f0) n2 (aa am f2) x4).toNat))))) i)) (cv (f0 (bq n0 (aa al f0) n2 (aa am f2) x4).toNat)) (au (hdV (ab (f0 (bq n0 (aa al f0) n2 (aa am f2) x4).toNat)))) (aa ae (cH (sE n0 f0 n2 f2 x4) x12)) (au (hdV (ab (ab (f0 (bq n0 (aa al f0) n2 (aa am f2) x4).toNat))))) (aa ae (cH (sU n0 f0 n2 f2 x4) x12)) x8 x9 x10 x11 * nk (gS n0 (aa al f0) n2 (aa am f2) x4) (jV n0 (aa al f0) n2 (aa am f2) x4) (j8 n0 (aa al f0) n2 (aa am f2) x4) x5 x6 x7)) 1000)],vi 0])))))
def gR (x5 x6 x7 x8 x9 x10 x11 x12:Int):RT Empty:=.obp (yo n0 f0 n2 f2 x4 x12) (.obt (sg n0 f0 n2 f2 x4 x5 x6 x7 x8 x9 x10 x11 x12))
def mK:=au (hdV (ab (f0 (bq n0 (aa al f0) n2 (aa am f2) x4).toNat)))<=(1000:Nat)/\au (hdV (ab (ab (f0 (bq n0 (aa al f0) n2 (aa am f2) x4).toNat))))<=(1000:Nat)
def pz (x5 x6 x7 x8 x9 x10 x11 x12:Int):RT Empty:=.und (.obp (mK n0 f0 n2 f2 x4) (.obt (.und (gR n0 f0 n2 f2 x4 x5 x6 x7 x8 x9 x10 x11 x12) (gR n0 f0 n2 f2 x4 x5 x6 x7 x8 x9 x10 x11 x12)))) (.obp (mK n0 f0 n2 f2 x4) (.obt (gR n0 f0 n2 f2 x4 x5 x6 x7 x8 x9 x10 x11 x12)))
def xn (x5 x6 x7 x8 x9 x10 x11 x12:Int):RT Empty:=.ob (decide (0<=bq n0 (aa al f0) n2 (aa am f2) x4/\bq n0 (aa al f0) n2 (aa am f2) x4 < (↑n0:Int))) (.und (.obc (.obt (.und (.obp (mK n0 f0 n2 f2 x4) (.obt (.und (.obp (yo n0 f0 n2 f2 x4 x12) (.obt (.und (sg n0 f0 n2 f2 x4 x5 x6 x7 x8 x9 x10 x11 x12) (sg n0 f0 n2 f2 x4 x5 x6 x7 x8 x9 x10 x11 x12)))) (.und (.und (gR n0 f0 n2 f2 x4 x5 x6 x7 x8 x9 x10 x11 x12) (gR n0 f0 n2 f2 x4 x5 x6 x7 x8 x9 x10 x11 x12)) (.und (gR n0 f0 n2 f2 x4 x5 x6 x7 x8 x9 x10 x11 x12) (gR n0 f0 n2 f2 x4 x5 x6 x7 x8 x9 x10 x11 x12)))))) (.und (pz n0 f0 n2 f2 x4 x5 x6 x7 x8 x9 x10 x11 x12) (pz n0 f0 n2 f2 x4 x5 x6 x7 x8 x9 x10 x11 x12))))) (.und (.und (.obc (.obt (pz n0 f0 n2 f2 x4 x5 x6 x7 x8 x9 x10 x11 x12))) (.obc (.obt (.obp (mK n0 f0 n2 f2 x4) (.obt (gR n0 f0 n2 f2 x4 x5 x6 x7 x8 x9 x10 x11 x12)))))) (.und (.obc (.obt (pz n0 f0 n2 f2 x4 x5 x6 x7 x8 x9 x10 x11 x12))) (.obc (.obt (.obp (mK n0 f0 n2 f2 x4) (.obt (gR n0 f0 n2 f2 x4 x5 x6 x7 x8 x9 x10 x11 x12))))))))
def yh (x5 x6 x7 x8 x9 x10 x11 x12:Int):RT Empty:=.br (bX n0 (aa al f0) n2 (aa am f2) x4 == 0) (.obc (.obt (.br (fj x8 x9 x10 x11 x12 != 0) (.ret (V.tup [V.agg [vi 0,vi 0],vi (fj x8 x9 x10 x11 x12)])) (xn n0 f0 n2 f2 x4 x5 x6 x7 x8 x9 x10 x11 x12)))) (.br (bX n0 (aa al f0) n2 (aa am f2) x4 != 0) (.ret (V.tup [V.agg [vi 0,vi 0],vi (bX n0 (aa al f0) n2 (aa am f2) x4)])) (xn n0 f0 n2 f2 x4 x5 x6 x7 x8 x9 x10 x11 x12))
def yaL (x5 x6 x7 x8 x9 x10 x11 x12:Int):RT Empty:=.obp ((∀ (i:Nat),i < n0->(sv (hdV (f0 i))).size<=(9223372036854775807:Nat))/\∀ (i:Nat),i < n2->(sv (hdV (f2 i))).size<=(9223372036854775807:Nat)) (.obt (.br (bX n0 (aa al f0) n2 (aa am f2) x4 == 0) (.ob (bX n0 (aa al f0) n2 (aa am f2) x4 == 0) (.obc (.obt (.br (gx x5 x6 x7) (.brf (.brt (.ret (V.tup [V.agg [vi 0,vi 0],vi 7])))) (yh n0 f0 n2 f2 x4 x5 x6 x7 x8 x9 x10 x11 x12))))) (yh n0 f0 n2 f2 x4 x5 x6 x7 x8 x9 x10 x11 x12)))
theorem Tx (x5 x6 x7 x8 x9 x10 x11 x12:Int):dh dm (aS JJ Oa u0 E9 [V.agg [V.sl n0 (aa al f0),V.sl n2 (aa am f2)],vi x4,V.agg [vi x5,vi x6,vi x7],V.agg [vi x8,vi x9,vi x10,vi x11],vi x12]) (yaL n0 f0 n2 f2 x4 x5 x6 x7 x8 x9 x10 x11 x12):=⟨by kernel_rfl,by kernel_rfl⟩
end
def Yq (x:List V) (a c d e h:Int):Int:=ge (va x) (cv x) (au (hdV (ab x))) (aa ae (cH (bj (hdV (ab x))) h)) (au (hdV (ab (ab x)))) (aa ae (cH (bj (hdV (ab (ab x)))) h)) a c d e
def XC (x:List V) (a c d e h:Int):Int:=gf (va x) (cv x) (au (hdV (ab x))) (aa ae (cH (bj (hdV (ab x))) h)) (au (hdV (ab (ab x)))) (aa ae (cH (bj (hdV (ab (ab x)))) h)) a c d e
section
variable (n0:Nat) (f0:ah) (n2:Nat) (f2:ah) (x4 x5 x6 x7 x8 x9 x10 x11 x12:Int)
include n0 f0 n2 f2 x4 x5 x6 x7 x8 x9 x10 x11 x12
def A3:Int:=bif bX n0 f0 n2 f2 x4 == 0 then bif gx x5 x6 x7 then 7 else fj x8 x9 x10 x11 x12 else bX n0 f0 n2 f2 x4
def twL:Int:=eA (i64.wrap (Yq (f0 (bq n0 f0 n2 f2 x4).toNat) x8 x9 x10 x11 x12 * nl (gS n0 f0 n2 f2 x4) (jK n0 f0 n2 f2 x4) (ij n0 f0 n2 f2 x4) x5 x6 x7)) 1000
def twH:Int:=fI (i64.wrap (XC (f0 (bq n0 f0 n2 f2 x4).toNat) x8 x9 x10 x11 x12 * nk (gS n0 f0 n2 f2 x4) (jV n0 f0 n2 f2 x4) (j8 n0 f0 n2 f2 x4) x5 x6 x7)) 1000
def eO:Int:=bif A3 n0 f0 n2 f2 x4 x5 x6 x7 x8 x9 x10 x11 x12 == 0 then twL n0 f0 n2 f2 x4 x5 x6 x7 x8 x9 x10 x11 x12 else 0
def eM:Int:=bif A3 n0 f0 n2 f2 x4 x5 x6 x7 x8 x9 x10 x11 x12 == 0 then twH n0 f0 n2 f2 x4 x5 x6 x7 x8 x9 x10 x11 x12 else 0
def fe:Int:=A3 n0 f0 n2 f2 x4 x5 x6 x7 x8 x9 x10 x11 x12
theorem HS (hp:aE n0 (aa al f0)/\aE n2 (aa am f2)):aN cr (yaL n0 f0 n2 f2 x4 x5 x6 x7 x8 x9 x10 x11 x12) (.tup [.agg [.int .i64 (eO n0 (aa al f0) n2 (aa am f2) x4 x5 x6 x7 x8 x9 x10 x11 x12),.int .i64 (eM n0 (aa al f0) n2 (aa am f2) x4 x5 x6 x7 x8 x9 x10 x11 x12)],.int .i64 (fe n0 (aa al f0) n2 (aa am f2) x4 x5 x6 x7 x8 x9 x10 x11 x12)]):=by
 have leaf:A3 n0 (aa al f0) n2 (aa am f2) x4 x5 x6 x7 x8 x9 x10 x11 x12=0->aN cr (sg n0 f0 n2 f2 x4 x5 x6 x7 x8 x9 x10 x11 x12) (.tup [.agg [.int .i64 (eO n0 (aa al f0) n2 (aa am f2) x4 x5 x6 x7 x8 x9 x10 x11 x12),.int .i64 (eM n0 (aa al f0) n2 (aa am f2) x4 x5 x6 x7 x8 x9 x10 x11 x12)],.int .i64 (fe n0 (aa al f0) n2 (aa am f2) x4 x5 x6 x7 x8 x9 x10 x11 x12)]):=fun h=>aC (by decide) (af (aC (by decide) (af (evRet (by
  unfold eO eM fe; rw [h]; rfl)))))
 have bad:∀ {e:Int},A3 n0 (aa al f0) n2 (aa am f2) x4 x5 x6 x7 x8 x9 x10 x11 x12=e->e ≠ 0->aN cr (.ret (V.tup [V.agg [vi 0,vi 0],vi e])) (.tup [.agg [.int .i64 (eO n0 (aa al f0) n2 (aa am f2) x4 x5 x6 x7 x8 x9 x10 x11 x12),.int .i64 (eM n0 (aa al f0) n2 (aa am f2) x4 x5 x6 x7 x8 x9 x10 x11 x12)],.int .i64 (fe n0 (aa al f0) n2 (aa am f2) x4 x5 x6 x7 x8 x9 x10 x11 x12)]):=fun h h0=>evRet (by
  unfold eO eM fe; rw [h,show (_ == (0:Int))=false from by simpa using h0]; rfl)
 have L7:(bX n0 (aa al f0) n2 (aa am f2) x4=0->gx x5 x6 x7=false)->aN cr (yh n0 f0 n2 f2 x4 x5 x6 x7 x8 x9 x10 x11 x12) (.tup [.agg [.int .i64 (eO n0 (aa al f0) n2 (aa am f2) x4 x5 x6 x7 x8 x9 x10 x11 x12),.int .i64 (eM n0 (aa al f0) n2 (aa am f2) x4 x5 x6 x7 x8 x9 x10 x11 x12)],.int .i64 (fe n0 (aa al f0) n2 (aa am f2) x4 x5 x6 x7 x8 x9 x10 x11 x12)]):=fun hw=>by
  have L2:bX n0 (aa al f0) n2 (aa am f2) x4=0->fj x8 x9 x10 x11 x12=0->aN cr (xn n0 f0 n2 f2 x4 x5 x6 x7 x8 x9 x10 x11 x12) (.tup [.agg [.int .i64 (eO n0 (aa al f0) n2 (aa am f2) x4 x5 x6 x7 x8 x9 x10 x11 x12),.int .i64 (eM n0 (aa al f0) n2 (aa am f2) x4 x5 x6 x7 x8 x9 x10 x11 x12)],.int .i64 (fe n0 (aa al f0) n2 (aa am f2) x4 x5 x6 x7 x8 x9 x10 x11 x12)]):=fun h0 hr=>by
   have ht:A3 n0 (aa al f0) n2 (aa am f2) x4 x5 x6 x7 x8 x9 x10 x11 x12=0:=by unfold A3; rw [h0,hw h0,hr]; rfl
   have hb:=aiX h0
   have tb:=Bn hb.2
   have up:=acA hb.2
   have hH:1<=x12/\x12<=30000:=by
    unfold fj at hr
    cases hh:ar x12 1 30000 with
    | true=>exact u7 hh
    | false=>rw [hh] at hr; cases hr
   have vw:=anr (H:=x12) tb up.1 up.2 hH
   have c4:yo n0 f0 n2 f2 x4 x12:=vw
   have c6:mK n0 f0 n2 f2 x4:=⟨vw.1.2,vw.2.1.2⟩
   have L3:=leaf ht
   have L1:aN cr (gR n0 f0 n2 f2 x4 x5 x6 x7 x8 x9 x10 x11 x12) (.tup [.agg [.int .i64 (eO n0 (aa al f0) n2 (aa am f2) x4 x5 x6 x7 x8 x9 x10 x11 x12),.int .i64 (eM n0 (aa al f0) n2 (aa am f2) x4 x5 x6 x7 x8 x9 x10 x11 x12)],.int .i64 (fe n0 (aa al f0) n2 (aa am f2) x4 x5 x6 x7 x8 x9 x10 x11 x12)]):=aC c4 (af L3)
   have L5:aN cr (pz n0 f0 n2 f2 x4 x5 x6 x7 x8 x9 x10 x11 x12) (.tup [.agg [.int .i64 (eO n0 (aa al f0) n2 (aa am f2) x4 x5 x6 x7 x8 x9 x10 x11 x12),.int .i64 (eM n0 (aa al f0) n2 (aa am f2) x4 x5 x6 x7 x8 x9 x10 x11 x12)],.int .i64 (fe n0 (aa al f0) n2 (aa am f2) x4 x5 x6 x7 x8 x9 x10 x11 x12)]):=⟨aC c6 (af ⟨L1,L1⟩),aC c6 (af L1)⟩
   refine aM (dqt hb.1) ?_
   repeat' (first | exact L3 | exact L1 | exact L5 | refine af ?_ | refine av ?_ | refine aC c4 ?_ | refine aC c6 ?_ | constructor)
  refine evBr (fun h=>av (af (evBr (fun h2=>?_) (fun h2=>L2 (eq_of_beq h) (by simpa using h2)))) ) (fun h=>evBr (fun h2=>?_) (fun h2=>?_))
  ·exact bad (by unfold A3; rw [h,hw (eq_of_beq h)]; rfl) (by simpa using h2)
  ·exact bad (by unfold A3; rw [h]; rfl) (by simpa using h2)
  ·exact absurd (by simpa using h2:bX n0 (aa al f0) n2 (aa am f2) x4=0) (by simpa using h)
 refine aC hp (af (evBr (fun h=>aM h (av (af (evBr (fun h2=>jP (eg (bad (by unfold A3; rw [h,h2]; rfl) (by decide)))) (fun h2=>L7 fun _=>h2))))) (fun h=>L7 fun h2=>?_)))
 exact absurd h2 (by simpa using h)
theorem ZV (hp:aE n0 (aa al f0)/\aE n2 (aa am f2)):aN cr (yaL n0 f0 n2 f2 x4 x5 x6 x7 x8 x9 x10 x11 x12) (.tup [.agg [.int .i64 (eO n0 (aa al f0) n2 (aa am f2) x4 x5 x6 x7 x8 x9 x10 x11 x12),.int .i64 (eM n0 (aa al f0) n2 (aa am f2) x4 x5 x6 x7 x8 x9 x10 x11 x12)],.int .i64 (fe n0 (aa al f0) n2 (aa am f2) x4 x5 x6 x7 x8 x9 x10 x11 x12)]):=HS n0 f0 n2 f2 x4 x5 x6 x7 x8 x9 x10 x11 x12 hp
end
def Y8:aB:=bI [.agg [.sl al,.sl am],tI,.agg bG,.agg iu,tI] (fun
 | [.agg [.sl n0 f0,.sl n2 f2],.int _ x4,.agg [.int _ x5,.int _ x6,.int _ x7],.agg [.int _ x8,.int _ x9,.int _ x10,.int _ x11],.int _ x12]=>aE n0 f0/\aE n2 f2
 | _=>False) fun
 | [.agg [.sl n0 f0,.sl n2 f2],.int _ x4,.agg [.int _ x5,.int _ x6,.int _ x7],.agg [.int _ x8,.int _ x9,.int _ x10,.int _ x11],.int _ x12]=>.tup [.agg [.int .i64 (eO n0 f0 n2 f2 x4 x5 x6 x7 x8 x9 x10 x11 x12),.int .i64 (eM n0 f0 n2 f2 x4 x5 x6 x7 x8 x9 x10 x11 x12)],.int .i64 (fe n0 f0 n2 f2 x4 x5 x6 x7 x8 x9 x10 x11 x12)]
 | _=>.any
theorem aaf:(vP Y8).Ok Tryz.prog 33:=bY LA Tryz.func33 (by kernel_rfl) fun ds hp=>dG (Tx ..) (ZV _ _ _ _ _ _ _ _ _ _ _ _ _ hp)
def Qw:bd:=(33,.con Y8)::Oa
theorem I1:aR Tryz.prog eqs its Qw:=.con aaf (LA)
set_option maxHeartbeats 0
set_option linter.unusedSectionVars false
def eU (n1:Nat) (f1:ah) (n3:Nat) (f3:ah) (n5:Nat) (f5:ah) (h:Int):Prop:=(2<=n1/\n1<=1000)/\(2<=n3/\n3<=1000)/\n1<=n5/\(∀ i:Nat,i < n5->n3<=au (hdV (f5 i)))/\(∀ i:Nat,i+1 < n1->i64.wrap (i64.wrap (ay (f1 (i+1)) - ay (f1 i)) * h) ≠ 0)/\(∀ i:Nat,i+1 < n3->i64.wrap (i64.wrap (ay (f3 (i+1)) - ay (f3 i)) * h) ≠ 0)
section
variable {n1:Nat} {f1:Nat->List V} {n3:Nat} {f3:Nat->List V} {n5:Nat} {f5:Nat->List V} {h:Int} (hp:eU n1 f1 n3 f3 n5 f5 h)
include n1 f1 n3 f3 n5 f5 h hp
theorem eU.a:2<=n1/\n1<=1000:=hp.1
theorem eU.b:2<=n3/\n3<=1000:=hp.2.1
end
theorem MG (p:Nat->Bool):∀ k,HF p k<=k - 1
 | 0=>Nat.le_refl _
 | k+1=>by
   unfold HF
   have:=MG p k
   cases p k
   ·show HF p k<=k+1 - 1; omega
   ·exact Nat.le_refl k
theorem dW {n:Nat} (f:Nat->List V) (x h:Int) (hn:2<=n/\n<=1000):0<=aF n f x h/\aF n f x h+1 < (n:Int):=by
 have:=MG (fun i=>decide (i64.wrap (ay (f i) * h)<=x)) (n - 1)
 unfold aF
 omega
section
variable {n1:Nat} {f1:Nat->List V} {n3:Nat} {f3:Nat->List V} {n5:Nat} {f5:Nat->List V} {h p q:Int} (hp:eU n1 f1 n3 f3 n5 f5 h) (a:0<=p/\p+1 < (n1:Int)) (c:0<=q/\q+1 < (n3:Int))
include hp a c
theorem iw0:i64.wrap (p+0)=p:=by have:=hp.1; rw [Int.add_zero]; exact wrapI (by omega) (by omega)
theorem iw1:i64.wrap (p+1)=p+1:=by have:=hp.1; exact wrapI (by omega) (by omega)
theorem iw2:i64.wrap (q+1)=q+1:=by have:=hp.2.1; exact wrapI (by omega) (by omega)
theorem iw3:i64.wrap (p+i64.wrap (0+1))=p+1:=iw1 hp a c
theorem amR:decide (0<=i64.wrap (p+0)/\i64.wrap (p+0) < (n5:Int))=true:=by rw [iw0 hp a c]; have:=hp.2.2.1; exact dqt (by omega)
theorem amM:decide (0<=i64.wrap (p+i64.wrap (0+1))/\i64.wrap (p+i64.wrap (0+1)) < (n5:Int))=true:=by rw [iw3 hp a c]; have:=hp.2.2.1; exact dqt (by omega)
theorem alr:decide (0<=q/\q < (au (hdV (f5 (i64.wrap (p+0)).toNat)):Int))=true:=by rw [iw0 hp a c]; have h3:=hp.2.2.1; have:=hp.2.2.2.1 p.toNat (by omega); exact dqt (by omega)
theorem alh:decide (0<=i64.wrap (q+1)/\i64.wrap (q+1) < (au (hdV (f5 (i64.wrap (p+0)).toNat)):Int))=true:=by rw [iw0 hp a c,iw2 hp a c]; have h3:=hp.2.2.1; have:=hp.2.2.2.1 p.toNat (by omega); exact dqt (by omega)
theorem anL:decide (0<=q/\q < (au (hdV (f5 (i64.wrap (p+i64.wrap (0+1))).toNat)):Int))=true:=by rw [iw3 hp a c]; have h3:=hp.2.2.1; have:=hp.2.2.2.1 (p+1).toNat (by omega); exact dqt (by omega)
theorem amt:decide (0<=i64.wrap (q+1)/\i64.wrap (q+1) < (au (hdV (f5 (i64.wrap (p+i64.wrap (0+1))).toNat)):Int))=true:=by rw [iw3 hp a c,iw2 hp a c]; have h3:=hp.2.2.1; have:=hp.2.2.2.1 (p+1).toNat (by omega); exact dqt (by omega)
theorem ank:decide (0<=q/\q < (n3:Int))=true:=dqt (by omega)
theorem anP:decide (0<=i64.wrap (q+1)/\i64.wrap (q+1) < (n3:Int))=true:=by rw [iw2 hp a c]; exact dqt (by omega)
theorem anM:decide (0<=p/\p < (n1:Int))=true:=dqt (by omega)
theorem afR:decide (0<=i64.wrap (p+1)/\i64.wrap (p+1) < (n1:Int))=true:=by rw [iw1 hp a c]; exact dqt (by omega)
theorem alq:bV (ay (f3 q.toNat)) (ay (f3 (i64.wrap (q+1)).toNat)) h=0->False:=by
 rw [iw2 hp a c,show (q+1).toNat=q.toNat+1 by omega]; exact hp.2.2.2.2.2 _ (by omega)
theorem am7:bV (ay (f1 p.toNat)) (ay (f1 (i64.wrap (p+1)).toNat)) h=0->False:=by
 rw [iw1 hp a c,show (p+1).toNat=p.toNat+1 by omega]; exact hp.2.2.2.2.1 _ (by omega)
theorem ah2:((1:Nat)<=n1/\n1<=1000)/\1<=n3/\n3<=1000:=by have:=hp.1; have:=hp.2.1; omega
end
def Y4 (s0:ByteArray) (n1:Nat) (f1:ah) (n3:Nat) (f3:ah) (n5:Nat) (f5:ah) (x7 x8 x9 x10 x11:Int):RT Empty:=.obp (((1:Nat)<=n1/\n1<=(1000:Nat))/\(1:Nat)<=n3/\n3<=(1000:Nat)) (.obt (.br (!eB n1 (aa ae f1) n3 (aa ae f3) x9 x10 x11) (.ret (V.agg [vi 0,vi x7])) (.obc (.obt (.obc (.obt (.brt (.ob (decide (0<=i64.wrap (aF n1 (aa ae f1) x9 x11+0)/\i64.wrap (aF n1 (aa ae f1) x9 x11+0) < (↑n5:Int))) (.ob (decide (0<=aF n3 (aa ae f3) x10 x11/\aF n3 (aa ae f3) x10 x11 < (↑(au (hdV (f5 (i64.wrap (aF n1 (aa ae f1) x9 x11+0)).toNat))):Int))) (.ob (decide (0<=i64.wrap (aF n1 (aa ae f1) x9 x11+0)/\i64.wrap (aF n1 (aa ae f1) x9 x11+0) < (↑n5:Int))) (.ob (decide (0<=i64.wrap (aF n3 (aa ae f3) x10 x11+1)/\i64.wrap (aF n3 (aa ae f3) x10 x11+1) < (↑(au (hdV (f5 (i64.wrap (aF n1 (aa ae f1) x9 x11+0)).toNat))):Int))) (.ob (decide (0<=aF n3 (aa ae f3) x10 x11/\aF n3 (aa ae f3) x10 x11 < (↑n3:Int))) (.ob (decide (0<=i64.wrap (aF n3 (aa ae f3) x10 x11+1)/\i64.wrap (aF n3 (aa ae f3) x10 x11+1) < (↑n3:Int))) (.obc (.obt (.obp (bV (ay (f3 (aF n3 (aa ae f3) x10 x11).toNat)) (ay (f3 (i64.wrap (aF n3 (aa ae f3) x10 x11+(1:Int))).toNat)) x11=(0:Int)->False) (.obt (.obp (bV (ay (f3 (aF n3 (aa ae f3) x10 x11).toNat)) (ay (f3 (i64.wrap (aF n3 (aa ae f3) x10 x11+(1:Int))).toNat)) x11=(0:Int)->False) (.obt (.obt (.brt (.ob (decide (0<=i64.wrap (aF n1 (aa ae f1) x9 x11+i64.wrap (0+1))/\i64.wrap (aF n1 (aa ae f1) x9 x11+i64.wrap (0+1)) < (↑n5:Int))) (.ob (decide (0<=aF n3 (aa ae f3) x10 x11/\aF n3 (aa ae f3) x10 x11 < (↑(au (hdV (f5 (i64.wrap (aF n1 (aa ae f1) x9 x11+i64.wrap (0+1))).toNat))):Int))) (.ob (decide (0<=i64.wrap (aF n1 (aa ae f1) x9 x11+i64.wrap (0+1))/\i64.wrap (aF n1 (aa ae f1) x9 x11+i64.wrap (0+1)) < (↑n5:Int))) (.ob (decide (0<=i64.wrap (aF n3 (aa ae f3) x10 x11+1)/\i64.wrap (aF n3 (aa ae f3) x10 x11+1) < (↑(au (hdV (f5 (i64.wrap (aF n1 (aa ae f1) x9 x11+i64.wrap (0+1))).toNat))):Int))) (.ob (decide (0<=aF n3 (aa ae f3) x10 x11/\aF n3 (aa ae f3) x10 x11 < (↑n3:Int))) (.ob (decide (0<=i64.wrap (aF n3 (aa ae f3) x10 x11+1)/\i64.wrap (aF n3 (aa ae f3) x10 x11+1) < (↑n3:Int))) (.obc (.obt (.obp (bV (ay (f3 (aF n3 (aa ae f3) x10 x11).toNat)) (ay (f3 (i64.wrap (aF n3 (aa ae f3) x10 x11+(1:Int))).toNat)) x11=(0:Int)->False) (.obt (.obp (bV (ay (f3 (aF n3 (aa ae f3) x10 x11).toNat)) (ay (f3 (i64.wrap (aF n3 (aa ae f3) x10 x11+(1:Int))).toNat)) x11=(0:Int)->False) (.obt (.obt (.brf (.obt (.obt (.ob (decide (0<=aF n1 (aa ae f1) x9 x11/\aF n1 (aa ae f1) x9 x11 < (↑n1:Int))) (.ob (decide (0<=i64.wrap (aF n1 (aa ae f1) x9 x11+1)/\i64.wrap (aF n1 (aa ae f1) x9 x11+1) < (↑n1:Int))) (.obc (.obt (.obt (.obt (.ob (decide (0<=aF n1 (aa ae f1) x9 x11/\aF n1 (aa ae f1) x9 x11 < (↑n1:Int))) (.ob (decide (0<=i64.wrap (aF n1 (aa ae f1) x9 x11+1)/\i64.wrap (aF n1 (aa ae f1) x9 x11+1) < (↑n1:Int))) (.obc (.obt (.obp (bV (ay (f1 (aF n1 (aa ae f1) x9 x11).toNat)) (ay (f1 (i64.wrap (aF n1 (aa ae f1) x9 x11+(1:Int))).toNat)) x11=(0:Int)->False) (.obt (.obp (bV (ay (f1 (aF n1 (aa ae f1) x9 x11).toNat)) (ay (f1 (i64.wrap (aF n1 (aa ae f1) x9 x11+(1:Int))).toNat)) x11=(0:Int)->False) (.obt (.ret (V.agg [vi (cX (c9 (cX (c9 (ay (bj (hdV (f5 (i64.wrap (aF n1 (aa ae f1) x9 x11+0)).toNat)) (aF n3 (aa ae f3) x10 x11).toNat)) (ay (bj (hdV (f5 (i64.wrap (aF n1 (aa ae f1) x9 x11+0)).toNat)) (i64.wrap (aF n3 (aa ae f3) x10 x11+1)).toNat)) (ay (f3 (aF n3 (aa ae f3) x10 x11).toNat)) (ay (f3 (i64.wrap (aF n3 (aa ae f3) x10 x11+1)).toNat)) x10 x11) (bV (ay (f3 (aF n3 (aa ae f3) x10 x11).toNat)) (ay (f3 (i64.wrap (aF n3 (aa ae f3) x10 x11+1)).toNat)) x11)) (cX (c9 (ay (bj (hdV (f5 (i64.wrap (aF n1 (aa ae f1) x9 x11+i64.wrap (0+1))).toNat)) (aF n3 (aa ae f3) x10 x11).toNat)) (ay (bj (hdV (f5 (i64.wrap (aF n1 (aa ae f1) x9 x11+i64.wrap (0+1))).toNat)) (i64.wrap (aF n3 (aa ae f3) x10 x11+1)).toNat)) (ay (f3 (aF n3 (aa ae f3) x10 x11).toNat)) (ay (f3 (i64.wrap (aF n3 (aa ae f3) x10 x11+1)).toNat)) x10 x11) (bV (ay (f3 (aF n3 (aa ae f3) x10 x11).toNat)) (ay (f3 (i64.wrap (aF n3 (aa ae f3) x10 x11+1)).toNat)) x11)) (ay (f1 (aF n1 (aa ae f1) x9 x11).toNat)) (ay (f1 (i64.wrap (aF n1 (aa ae f1) x9 x11+1)).toNat)) x9 x11) (bV (ay (f1 (aF n1 (aa ae f1) x9 x11).toNat)) (ay (f1 (i64.wrap (aF n1 (aa ae f1) x9 x11+1)).toNat)) x11)),vi (dM (c9 (dM (c9 (ay (bj (hdV (f5 (i64.wrap (aF n1 (aa ae f1) x9 x11+0)).toNat)) (aF n3 (aa ae f3) x10 x11).toNat)) (ay (bj (hdV (f5 (i64.wrap (aF n1 (aa ae f1) x9 x11+0)).toNat)) (i64.wrap (aF n3 (aa ae f3) x10 x11+1)).toNat)) (ay (f3 (aF n3 (aa ae f3) x10 x11).toNat)) (ay (f3 (i64.wrap (aF n3 (aa ae f3) x10 x11+1)).toNat)) x10 x11) (bV (ay (f3 (aF n3 (aa ae f3) x10 x11).toNat)) (ay (f3 (i64.wrap (aF n3 (aa ae f3) x10 x11+1)).toNat)) x11)) (dM (c9 (ay (bj (hdV (f5 (i64.wrap (aF n1 (aa ae f1) x9 x11+i64.wrap (0+1))).toNat)) (aF n3 (aa ae f3) x10 x11).toNat)) (ay (bj (hdV (f5 (i64.wrap (aF n1 (aa ae f1) x9 x11+i64.wrap (0+1))).toNat)) (i64.wrap (aF n3 (aa ae f3) x10 x11+1)).toNat)) (ay (f3 (aF n3 (aa ae f3) x10 x11).toNat)) (ay (f3 (i64.wrap (aF n3 (aa ae f3) x10 x11+1)).toNat)) x10 x11) (bV (ay (f3 (aF n3 (aa ae f3) x10 x11).toNat)) (ay (f3 (i64.wrap (aF n3 (aa ae f3) x10 x11+1)).toNat)) x11)) (ay (f1 (aF n1 (aa ae f1) x9 x11).toNat)) (ay (f1 (i64.wrap (aF n1 (aa ae f1) x9 x11+1)).toNat)) x9 x11) (bV (ay (f1 (aF n1 (aa ae f1) x9 x11).toNat)) (ay (f1 (i64.wrap (aF n1 (aa ae f1) x9 x11+1)).toNat)) x11))])))))))))))))))))))))))))))))))))))))))))))))))))))))
theorem Ub (s0:ByteArray) (n1:Nat) (f1:ah) (n3:Nat) (f3:ah) (n5:Nat) (f5:ah) (x7 x8 x9 x10 x11:Int):dh dm (aS JJ Qw uB agJ [V.agg [V.str s0,V.sl n1 (aa ae f1),V.sl n3 (aa ae f3),V.sl n5 (aa [Ty.sl ae] f5),vi x7,vi x8],vi x9,vi x10,vi x11]) (Y4 s0 n1 f1 n3 f3 n5 f5 x7 x8 x9 x10 x11):=⟨by kernel_rfl,by kernel_rfl⟩
def fF (n1:Nat) (f1:ah) (n3:Nat) (f3 f5:ah) (x9 x10 x11:Int):Int:=bif !eB n1 (aa ae f1) n3 (aa ae f3) x9 x10 x11 then 0 else cX (c9 (cX (c9 (ay (bj (hdV (f5 (i64.wrap (aF n1 (aa ae f1) x9 x11+0)).toNat)) (aF n3 (aa ae f3) x10 x11).toNat)) (ay (bj (hdV (f5 (i64.wrap (aF n1 (aa ae f1) x9 x11+0)).toNat)) (i64.wrap (aF n3 (aa ae f3) x10 x11+1)).toNat)) (ay (f3 (aF n3 (aa ae f3) x10 x11).toNat)) (ay (f3 (i64.wrap (aF n3 (aa ae f3) x10 x11+1)).toNat)) x10 x11) (bV (ay (f3 (aF n3 (aa ae f3) x10 x11).toNat)) (ay (f3 (i64.wrap (aF n3 (aa ae f3) x10 x11+1)).toNat)) x11)) (cX (c9 (ay (bj (hdV (f5 (i64.wrap (aF n1 (aa ae f1) x9 x11+i64.wrap (0+1))).toNat)) (aF n3 (aa ae f3) x10 x11).toNat)) (ay (bj (hdV (f5 (i64.wrap (aF n1 (aa ae f1) x9 x11+i64.wrap (0+1))).toNat)) (i64.wrap (aF n3 (aa ae f3) x10 x11+1)).toNat)) (ay (f3 (aF n3 (aa ae f3) x10 x11).toNat)) (ay (f3 (i64.wrap (aF n3 (aa ae f3) x10 x11+1)).toNat)) x10 x11) (bV (ay (f3 (aF n3 (aa ae f3) x10 x11).toNat)) (ay (f3 (i64.wrap (aF n3 (aa ae f3) x10 x11+1)).toNat)) x11)) (ay (f1 (aF n1 (aa ae f1) x9 x11).toNat)) (ay (f1 (i64.wrap (aF n1 (aa ae f1) x9 x11+1)).toNat)) x9 x11) (bV (ay (f1 (aF n1 (aa ae f1) x9 x11).toNat)) (ay (f1 (i64.wrap (aF n1 (aa ae f1) x9 x11+1)).toNat)) x11)
def fD (n1:Nat) (f1:ah) (n3:Nat) (f3 f5:ah) (x7 x9 x10 x11:Int):Int:=bif !eB n1 (aa ae f1) n3 (aa ae f3) x9 x10 x11 then x7 else dM (c9 (dM (c9 (ay (bj (hdV (f5 (i64.wrap (aF n1 (aa ae f1) x9 x11+0)).toNat)) (aF n3 (aa ae f3) x10 x11).toNat)) (ay (bj (hdV (f5 (i64.wrap (aF n1 (aa ae f1) x9 x11+0)).toNat)) (i64.wrap (aF n3 (aa ae f3) x10 x11+1)).toNat)) (ay (f3 (aF n3 (aa ae f3) x10 x11).toNat)) (ay (f3 (i64.wrap (aF n3 (aa ae f3) x10 x11+1)).toNat)) x10 x11) (bV (ay (f3 (aF n3 (aa ae f3) x10 x11).toNat)) (ay (f3 (i64.wrap (aF n3 (aa ae f3) x10 x11+1)).toNat)) x11)) (dM (c9 (ay (bj (hdV (f5 (i64.wrap (aF n1 (aa ae f1) x9 x11+i64.wrap (0+1))).toNat)) (aF n3 (aa ae f3) x10 x11).toNat)) (ay (bj (hdV (f5 (i64.wrap (aF n1 (aa ae f1) x9 x11+i64.wrap (0+1))).toNat)) (i64.wrap (aF n3 (aa ae f3) x10 x11+1)).toNat)) (ay (f3 (aF n3 (aa ae f3) x10 x11).toNat)) (ay (f3 (i64.wrap (aF n3 (aa ae f3) x10 x11+1)).toNat)) x10 x11) (bV (ay (f3 (aF n3 (aa ae f3) x10 x11).toNat)) (ay (f3 (i64.wrap (aF n3 (aa ae f3) x10 x11+1)).toNat)) x11)) (ay (f1 (aF n1 (aa ae f1) x9 x11).toNat)) (ay (f1 (i64.wrap (aF n1 (aa ae f1) x9 x11+1)).toNat)) x9 x11) (bV (ay (f1 (aF n1 (aa ae f1) x9 x11).toNat)) (ay (f1 (i64.wrap (aF n1 (aa ae f1) x9 x11+1)).toNat)) x11)
def Ed (s0:ByteArray) (n1:Nat) (f1:ah) (n3:Nat) (f3:ah) (n5:Nat) (f5:ah) (x7 x8 x9 x10 x11:Int):V:=.agg [.int i64 (fF n1 f1 n3 f3 f5 x9 x10 x11),.int i64 (fD n1 f1 n3 f3 f5 x7 x9 x10 x11)]
theorem abD (s0:ByteArray) (n1:Nat) (f1:ah) (n3:Nat) (f3:ah) (n5:Nat) (f5:ah) (x7 x8 x9 x10 x11:Int) (hp:eU n1 f1 n3 f3 n5 f5 x11):aN cr (Y4 s0 n1 f1 n3 f3 n5 f5 x7 x8 x9 x10 x11) (Ed s0 n1 f1 n3 f3 n5 f5 x7 x8 x9 x10 x11):=by
 have a0:=ah2 hp (dW (aa ae f1) x9 x11 (eU.a hp)) (dW (aa ae f3) x10 x11 (eU.b hp))
 have a1:=amR hp (dW (aa ae f1) x9 x11 (eU.a hp)) (dW (aa ae f3) x10 x11 (eU.b hp))
 have a2:=amM hp (dW (aa ae f1) x9 x11 (eU.a hp)) (dW (aa ae f3) x10 x11 (eU.b hp))
 have a3:=alr hp (dW (aa ae f1) x9 x11 (eU.a hp)) (dW (aa ae f3) x10 x11 (eU.b hp))
 have a4:=alh hp (dW (aa ae f1) x9 x11 (eU.a hp)) (dW (aa ae f3) x10 x11 (eU.b hp))
 have a5:=anL hp (dW (aa ae f1) x9 x11 (eU.a hp)) (dW (aa ae f3) x10 x11 (eU.b hp))
 have a6:=amt hp (dW (aa ae f1) x9 x11 (eU.a hp)) (dW (aa ae f3) x10 x11 (eU.b hp))
 have a7:=ank hp (dW (aa ae f1) x9 x11 (eU.a hp)) (dW (aa ae f3) x10 x11 (eU.b hp))
 have a8:=anP hp (dW (aa ae f1) x9 x11 (eU.a hp)) (dW (aa ae f3) x10 x11 (eU.b hp))
 have a9:=anM hp (dW (aa ae f1) x9 x11 (eU.a hp)) (dW (aa ae f3) x10 x11 (eU.b hp))
 have a10:=afR hp (dW (aa ae f1) x9 x11 (eU.a hp)) (dW (aa ae f3) x10 x11 (eU.b hp))
 have a11:=alq hp (dW (aa ae f1) x9 x11 (eU.a hp)) (dW (aa ae f3) x10 x11 (eU.b hp))
 have a12:=am7 hp (dW (aa ae f1) x9 x11 (eU.a hp)) (dW (aa ae f3) x10 x11 (eU.b hp))
 exact aC (by first | with_reducible assumption | exact a11 | exact a12) (af (evBr (fun h0=>evRet (by unfold Ed fF fD; try rw [h0]; rfl)) (fun h0=>av (af (av (af (eg (aM (by with_reducible assumption) (aM (by with_reducible assumption) (aM (by with_reducible assumption) (aM (by with_reducible assumption) (aM (by with_reducible assumption) (aM (by with_reducible assumption) (av (af (aC (by first | with_reducible assumption | exact a11 | exact a12) (af (aC (by first | with_reducible assumption | exact a11 | exact a12) (af (af (eg (aM (by with_reducible assumption) (aM (by with_reducible assumption) (aM (by with_reducible assumption) (aM (by with_reducible assumption) (aM (by with_reducible assumption) (aM (by with_reducible assumption) (av (af (aC (by first | with_reducible assumption | exact a11 | exact a12) (af (aC (by first | with_reducible assumption | exact a11 | exact a12) (af (af (jP (af (af (aM (by with_reducible assumption) (aM (by with_reducible assumption) (av (af (af (af (aM (by with_reducible assumption) (aM (by with_reducible assumption) (av (af (aC (by first | with_reducible assumption | exact a11 | exact a12) (af (aC (by first | with_reducible assumption | exact a11 | exact a12) (af (evRet (by unfold Ed fF fD; try rw [h0]; rfl)))))))))))))))))))))))))))))))))))))))))))))))))))))
def Y0:aB:=bI [.agg al,tI,tI,tI] (fun
 | [.agg [.str s0,.sl n1 f1,.sl n3 f3,.sl n5 f5,.int _ x7,.int _ x8],.int _ x9,.int _ x10,.int _ x11]=>eU n1 f1 n3 f3 n5 f5 x11
 | _=>False) fun
 | [.agg [.str s0,.sl n1 f1,.sl n3 f3,.sl n5 f5,.int _ x7,.int _ x8],.int _ x9,.int _ x10,.int _ x11]=>Ed s0 n1 f1 n3 f3 n5 f5 x7 x8 x9 x10 x11
 | _=>.any
theorem Z2:(vP Y0).Ok Tryz.prog 261:=bY I1 Tryz.func261 (by kernel_rfl) fun ds hp=>dG (Ub ..) (abD _ _ _ _ _ _ _ _ _ _ _ _ hp)
def AU:bd:=(261,.con Y0)::Qw
theorem Mt:aR Tryz.prog eqs its AU:=.con Z2 (I1)
inductive lC where
 | L0 (ia0:Int) (ba1:Bool) (ia2 ia3:Int)
 | L1 (ib0 ib1:Int) (bb2:Bool) (ib3 ib4:Int)
def Dj (s0:ByteArray) (n1:Nat) (f1:ah) (n3:Nat) (f3:ah) (n5:Nat) (f5:ah) (x7 x8 x9 x10 x11 x12 x13:Int):lC->bp × List O × Option Ex
 | .L0 ia0 ba1 ia2 ia3=>([(11,vi ia0),(10,V.pl 0 0),(9,V.bool ba1),(8,V.sl (aO n3 (aa ae f3) x11 x12 x13).length (aa ae (gz (aO n3 (aa ae f3) x11 x12 x13)))),(7,V.sl (aO n1 (aa ae f1) x9 x10 x13).length (aa ae (gz (aO n1 (aa ae f1) x9 x10 x13)))),(29,V.sl (aO n3 (aa ae f3) x11 x12 x13).length (aa ae (gz (aO n3 (aa ae f3) x11 x12 x13)))),(21,V.sl (aO n1 (aa ae f1) x9 x10 x13).length (aa ae (gz (aO n1 (aa ae f1) x9 x10 x13)))),(28,vi x13),(27,vi x12),(26,V.pl 1 3),(25,vi x11),(24,V.pl 1 2),(23,V.sl n3 (aa ae f3)),(22,V.pl 2 2),(20,vi x13),(19,vi x10),(18,V.pl 1 1),(17,vi x9),(16,V.pl 1 0),(15,V.sl n1 (aa ae f1)),(14,V.pl 2 1),(6,V.pl 3 0),(4,V.pl 1 0),(3,V.pl 2 0),(0,V.agg [V.str s0,V.sl n1 (aa ae f1),V.sl n3 (aa ae f3),V.sl n5 (aa [Ty.sl ae] f5),vi x7,vi x8]),(1,V.agg [vi x9,vi x10,vi x11,vi x12]),(2,vi x13)],[O.cells [vi ia2,vi ia3] 39,O.cells [vi x9,vi x10,vi x11,vi x12] 55,O.cells [V.str s0,V.sl n1 (aa ae f1),V.sl n3 (aa ae f3),V.sl n5 (aa [Ty.sl ae] f5),vi x7,vi x8] 126,O.cells [vi 0,vi 0] 39],none)
 | .L1 ib0 ib1 bb2 ib3 ib4=>([(12,vi ib0),(33,V.kb true),(32,vi (↑(aO n1 (aa ae f1) x9 x10 x13).length:Int)),(31,V.sl (aO n1 (aa ae f1) x9 x10 x13).length (aa ae (gz (aO n1 (aa ae f1) x9 x10 x13)))),(30,vi ib1),(11,vi ib1),(10,V.pl 0 0),(9,V.bool bb2),(8,V.sl (aO n3 (aa ae f3) x11 x12 x13).length (aa ae (gz (aO n3 (aa ae f3) x11 x12 x13)))),(7,V.sl (aO n1 (aa ae f1) x9 x10 x13).length (aa ae (gz (aO n1 (aa ae f1) x9 x10 x13)))),(29,V.sl (aO n3 (aa ae f3) x11 x12 x13).length (aa ae (gz (aO n3 (aa ae f3) x11 x12 x13)))),(21,V.sl (aO n1 (aa ae f1) x9 x10 x13).length (aa ae (gz (aO n1 (aa ae f1) x9 x10 x13)))),(28,vi x13),(27,vi x12),(26,V.pl 1 3),(25,vi x11),(24,V.pl 1 2),(23,V.sl n3 (aa ae f3)),(22,V.pl 2 2),(20,vi x13),(19,vi x10),(18,V.pl 1 1),(17,vi x9),(16,V.pl 1 0),(15,V.sl n1 (aa ae f1)),(14,V.pl 2 1),(6,V.pl 3 0),(4,V.pl 1 0),(3,V.pl 2 0),(0,V.agg [V.str s0,V.sl n1 (aa ae f1),V.sl n3 (aa ae f3),V.sl n5 (aa [Ty.sl ae] f5),vi x7,vi x8]),(1,V.agg [vi x9,vi x10,vi x11,vi x12]),(2,vi x13)],[O.cells [vi ib3,vi ib4] 39,O.cells [vi x9,vi x10,vi x11,vi x12] 55,O.cells [V.str s0,V.sl n1 (aa ae f1),V.sl n3 (aa ae f3),V.sl n5 (aa [Ty.sl ae] f5),vi x7,vi x8] 126,O.cells [vi 0,vi 0] 39],none)
def aep:lC->JJ
 | .L0 ia0 ba1 ia2 ia3=>(0,[])
 | .L1 ib0 ib1 bb2 ib3 ib4=>(1,[])
section
variable (s0:ByteArray) (n1:Nat) (f1:ah) (n3:Nat) (f3:ah) (n5:Nat) (f5:ah) (x7 x8 x9 x10 x11 x12 x13:Int)
include s0 n1 f1 n3 f3 n5 f5 x7 x8 x9 x10 x11 x12 x13
def K9:T (bN JJ):=aS JJ AU u0 agY [V.agg [V.str s0,V.sl n1 (aa ae f1),V.sl n3 (aa ae f3),V.sl n5 (aa [Ty.sl ae] f5),vi x7,vi x8],V.agg [vi x9,vi x10,vi x11,vi x12],vi x13]
def tB (cx:List Cx):Lp JJ:=fb (eL (K9 s0 n1 f1 n3 f3 n5 f5 x7 x8 x9 x10 x11 x12 x13) [])
def IM (cx:List Cx):Lp JJ:=fb (eL (u4 AU u0 (0,[]) (tB s0 n1 f1 n3 f3 n5 f5 x7 x8 x9 x10 x11 x12 x13 []) (Dj s0 n1 f1 n3 f3 n5 f5 x7 x8 x9 x10 x11 x12 x13 (.L0 (0:Int) false (0:Int) (0:Int)))) [true])
def ad0:JJ->Lp JJ
 | (0,cx)=>tB s0 n1 f1 n3 f3 n5 f5 x7 x8 x9 x10 x11 x12 x13 cx
 | (1,cx)=>IM s0 n1 f1 n3 f3 n5 f5 x7 x8 x9 x10 x11 x12 x13 cx
 | (_,cx)=>tB s0 n1 f1 n3 f3 n5 f5 x7 x8 x9 x10 x11 x12 x13 cx
def ahb:LD JJ lC:=⟨aep,ad0 s0 n1 f1 n3 f3 n5 f5 x7 x8 x9 x10 x11 x12 x13,Dj s0 n1 f1 n3 f3 n5 f5 x7 x8 x9 x10 x11 x12 x13⟩
end
def wZ (n1:Nat) (f1:ah) (n3:Nat) (f3 f5:ah) (x7 x9 x10 x11 x12 x13 ib0 ib1:Int):=fD n1 (aa ae f1) n3 (aa ae f3) (aa [Ty.sl ae] f5) x7 (ay (gz (aO n1 (aa ae f1) x9 x10 x13) ib1.toNat)) (ay (gz (aO n3 (aa ae f3) x11 x12 x13) ib0.toNat)) x13
def wR (n1:Nat) (f1:ah) (n3:Nat) (f3 f5:ah) (x9 x10 x11 x12 x13 ib0 ib1:Int):=fF n1 (aa ae f1) n3 (aa ae f3) (aa [Ty.sl ae] f5) (ay (gz (aO n1 (aa ae f1) x9 x10 x13) ib1.toNat)) (ay (gz (aO n3 (aa ae f3) x11 x12 x13) ib0.toNat)) x13
def qM (s0:ByteArray) (n1:Nat) (f1:ah) (n3:Nat) (f3:ah) (n5:Nat) (f5:ah) (x7 x8 x9 x10 x11 x12 x13:Int):lC->RT lC
 | .L0 ia0 ba1 ia2 ia3=>.asm (true=true->(aO n1 (aa ae f1) x9 x10 x13).length<=9223372036854775807) (.br (decide (ia0 < (↑(aO n1 (aa ae f1) x9 x10 x13).length:Int))) (.enter (iR 0 4 []) (lC.L1 (0) (ia0) (ba1) (ia2) (ia3)) []) (.ret (V.agg [vi ia2,vi ia3])))
 | .L1 ib0 ib1 bb2 ib3 ib4=>.asm (true=true->(aO n3 (aa ae f3) x11 x12 x13).length<=9223372036854775807) (.br (decide (ib0 < (↑(aO n3 (aa ae f3) x11 x12 x13).length:Int))) (.ob (decide (0<=ib1/\ib1 < (↑(aO n1 (aa ae f1) x9 x10 x13).length:Int))) (.ob (decide (0<=ib0/\ib0 < (↑(aO n3 (aa ae f3) x11 x12 x13).length:Int))) (.obp (((1:Nat)<=n1/\n1<=(1000:Nat))/\(1:Nat)<=n3/\n3<=(1000:Nat)) (.obt (.obi (.obi (.obi (.obi (.obi (.obi (.br (bif !eB n1 (aa ae f1) n3 (aa ae f3) (ay (gz (aO n1 (aa ae f1) x9 x10 x13) ib1.toNat)) (ay (gz (aO n3 (aa ae f3) x11 x12 x13) ib0.toNat)) x13 then bif decide (1 < ib1) then true else decide (1 < ib0) else false) (.next (iR 0 4 []) (lC.L1 (i64.wrap (ib0+1)) (ib1) (bb2) (ib3) (ib4)) []) (.ob (decide (0<=ib1/\ib1 < (↑(aO n1 (aa ae f1) x9 x10 x13).length:Int))) (.ob (decide (0<=ib0/\ib0 < (↑(aO n3 (aa ae f3) x11 x12 x13).length:Int))) (.obp (((2:Nat)<=n1/\n1<=(1000:Nat))/\((2:Nat)<=n3/\n3<=(1000:Nat))/\n1<=n5/\(∀ (i:Nat),i < n5->n3<=au (hdV (f5 i)))/\(∀ (i:Nat),i+(1:Nat) < n1->i64.wrap (i64.wrap (ay (f1 (i+(1:Nat))) - ay (f1 i)) * x13) ≠ (0:Int))/\∀ (i:Nat),i+(1:Nat) < n3->i64.wrap (i64.wrap (ay (f3 (i+(1:Nat))) - ay (f3 i)) * x13) ≠ (0:Int)) (.obt (.br (bb2) (.next (iR 0 4 []) (lC.L1 (i64.wrap (ib0+1)) (ib1) (false) (min (wR n1 f1 n3 f3 f5 x9 x10 x11 x12 x13 ib0 ib1) (wR n1 f1 n3 f3 f5 x9 x10 x11 x12 x13 ib0 ib1)) (max (wZ n1 f1 n3 f3 f5 x7 x9 x10 x11 x12 x13 ib0 ib1) (wZ n1 f1 n3 f3 f5 x7 x9 x10 x11 x12 x13 ib0 ib1))) []) (.next (iR 0 4 []) (lC.L1 (i64.wrap (ib0+1)) (ib1) (bb2) (min ib3 (wR n1 f1 n3 f3 f5 x9 x10 x11 x12 x13 ib0 ib1)) (max ib4 (wZ n1 f1 n3 f3 f5 x7 x9 x10 x11 x12 x13 ib0 ib1))) []))))))))))))))))) (.next (iR 0 4 []) (lC.L0 (i64.wrap (ib1+1)) (bb2) (ib3) (ib4)) []))
def PL (s0:ByteArray) (n1:Nat) (f1:ah) (n3:Nat) (f3:ah) (n5:Nat) (f5:ah) (x7 x8 x9 x10 x11 x12 x13:Int):RT lC:=.obp (n1<=(1000:Nat)) (.obt (.obp (n3<=(1000:Nat)) (.obt (.enter [some (some 3),some (some 1),some (some 0),some (some 2)] (lC.L0 (0) (true) (0) (0)) []))))
theorem Ud (s0:ByteArray) (n1:Nat) (f1:ah) (n3:Nat) (f3:ah) (n5:Nat) (f5:ah) (x7 x8 x9 x10 x11 x12 x13:Int):dR AU u0 (ahb s0 n1 f1 n3 f3 n5 f5 x7 x8 x9 x10 x11 x12 x13) (K9 s0 n1 f1 n3 f3 n5 f5 x7 x8 x9 x10 x11 x12 x13) (PL s0 n1 f1 n3 f3 n5 f5 x7 x8 x9 x10 x11 x12 x13) (qM s0 n1 f1 n3 f3 n5 f5 x7 x8 x9 x10 x11 x12 x13):=⟨⟨by kernel_rfl,by kernel_rfl⟩,fun s=>by cases s <;> exact ⟨by kernel_rfl,by kernel_rfl⟩⟩
section
variable (n1:Nat) (f1:ah) (n3:Nat) (f3:ah)
include n1 f1 n3 f3
def AF (f5:ah) (x7 x9 x10 x11 x12 x13:Int) (i k:Nat):Bool:=bif !eB n1 f1 n3 f3 (ay (gz (aO n1 f1 x9 x10 x13) i)) (ay (gz (aO n3 f3 x11 x12 x13) k)) x13 then bif decide (1 < (i:Int)) then true else decide (1 < (k:Int)) else false
def dvX (f5:ah) (x7 x9 x10 x11 x12 x13:Int) (i k:Nat):Int:=fF n1 f1 n3 f3 f5 (ay (gz (aO n1 f1 x9 x10 x13) i)) (ay (gz (aO n3 f3 x11 x12 x13) k)) x13
def dvY (f5:ah) (x7 x9 x10 x11 x12 x13:Int) (i k:Nat):Int:=fD n1 f1 n3 f3 f5 x7 (ay (gz (aO n1 f1 x9 x10 x13) i)) (ay (gz (aO n3 f3 x11 x12 x13) k)) x13
def Qy (f5:ah) (x7 x9 x10 x11 x12 x13:Int) (i k:Nat) (o:Bool × Int × Int):Bool × Int × Int:=bif AF n1 f1 n3 f3 f5 x7 x9 x10 x11 x12 x13 i k then o else bif o.1 then (false,min (dvX n1 f1 n3 f3 f5 x7 x9 x10 x11 x12 x13 i k) (dvX n1 f1 n3 f3 f5 x7 x9 x10 x11 x12 x13 i k),max (dvY n1 f1 n3 f3 f5 x7 x9 x10 x11 x12 x13 i k) (dvY n1 f1 n3 f3 f5 x7 x9 x10 x11 x12 x13 i k)) else (o.1,min o.2.1 (dvX n1 f1 n3 f3 f5 x7 x9 x10 x11 x12 x13 i k),max o.2.2 (dvY n1 f1 n3 f3 f5 x7 x9 x10 x11 x12 x13 i k))
end
def Hq (n1:Nat) (f1:ah) (n3:Nat) (f3 f5:ah) (x7 x9 x10 x11 x12 x13:Int) (i:Nat) (o:Bool × Int × Int):Nat->Bool × Int × Int
 | 0=>o
 | k+1=>Qy n1 f1 n3 f3 f5 x7 x9 x10 x11 x12 x13 i k (Hq n1 f1 n3 f3 f5 x7 x9 x10 x11 x12 x13 i o k)
def U9 (n1:Nat) (f1:ah) (n3:Nat) (f3 f5:ah) (x7 x9 x10 x11 x12 x13:Int):Nat->Bool × Int × Int
 | 0=>(true,0,0)
 | i+1=>Hq n1 f1 n3 f3 f5 x7 x9 x10 x11 x12 x13 i (U9 n1 f1 n3 f3 f5 x7 x9 x10 x11 x12 x13 i) (aO n3 f3 x11 x12 x13).length
def gh (n1:Nat) (f1:ah) (n3:Nat) (f3 f5:ah) (x7 x9 x10 x11 x12 x13:Int):Int:=(U9 n1 f1 n3 f3 f5 x7 x9 x10 x11 x12 x13 (aO n1 f1 x9 x10 x13).length).2.1
def gn (n1:Nat) (f1:ah) (n3:Nat) (f3 f5:ah) (x7 x9 x10 x11 x12 x13:Int):Int:=(U9 n1 f1 n3 f3 f5 x7 x9 x10 x11 x12 x13 (aO n1 f1 x9 x10 x13).length).2.2
section
variable (s0:ByteArray) (n1:Nat) (f1:ah) (n3:Nat) (f3:ah) (n5:Nat) (f5:ah) (x7:Int) (x8:Int) (x9:Int) (x10:Int) (x11:Int) (x12:Int) (x13:Int) (hp:eU n1 (aa ae f1) n3 (aa ae f3) n5 (aa [Ty.sl ae] f5) x13)
include hp
theorem QQ (i:Nat) (hi:i < (aO n1 (aa ae f1) x9 x10 x13).length) (o:Bool × Int × Int) (nx:Ev (qM s0 n1 f1 n3 f3 n5 f5 x7 x8 x9 x10 x11 x12 x13) (.L0 (i64.wrap ((i:Int)+1)) (Hq n1 (aa ae f1) n3 (aa ae f3) (aa [Ty.sl ae] f5) x7 x9 x10 x11 x12 x13 i o (aO n3 (aa ae f3) x11 x12 x13).length).1 (Hq n1 (aa ae f1) n3 (aa ae f3) (aa [Ty.sl ae] f5) x7 x9 x10 x11 x12 x13 i o (aO n3 (aa ae f3) x11 x12 x13).length).2.1 (Hq n1 (aa ae f1) n3 (aa ae f3) (aa [Ty.sl ae] f5) x7 x9 x10 x11 x12 x13 i o (aO n3 (aa ae f3) x11 x12 x13).length).2.2) (.agg [.int .i64 (gh n1 (aa ae f1) n3 (aa ae f3) (aa [Ty.sl ae] f5) x7 x9 x10 x11 x12 x13),.int .i64 (gn n1 (aa ae f1) n3 (aa ae f3) (aa [Ty.sl ae] f5) x7 x9 x10 x11 x12 x13)])) :
 ∀ k,k<=(aO n3 (aa ae f3) x11 x12 x13).length->Ev (qM s0 n1 f1 n3 f3 n5 f5 x7 x8 x9 x10 x11 x12 x13) (.L1 (k:Int) (i:Int) (Hq n1 (aa ae f1) n3 (aa ae f3) (aa [Ty.sl ae] f5) x7 x9 x10 x11 x12 x13 i o k).1 (Hq n1 (aa ae f1) n3 (aa ae f3) (aa [Ty.sl ae] f5) x7 x9 x10 x11 x12 x13 i o k).2.1 (Hq n1 (aa ae f1) n3 (aa ae f3) (aa [Ty.sl ae] f5) x7 x9 x10 x11 x12 x13 i o k).2.2) (.agg [.int .i64 (gh n1 (aa ae f1) n3 (aa ae f3) (aa [Ty.sl ae] f5) x7 x9 x10 x11 x12 x13),.int .i64 (gn n1 (aa ae f1) n3 (aa ae f3) (aa [Ty.sl ae] f5) x7 x9 x10 x11 x12 x13)]):=by
 refine dH fun k hk ih=>Ev.of rfl (bk fun hn=>?_)
 by_cases hlt:k < (aO n3 (aa ae f3) x11 x12 x13).length
 ·have hw:i64.wrap ((k:Int)+1)=((k+1:Nat):Int):=by rw [wrapI (by omega) (by omega)]; omega
  have ih:=ih hlt
  rw [← hw] at ih
  have e:Hq n1 (aa ae f1) n3 (aa ae f3) (aa [Ty.sl ae] f5) x7 x9 x10 x11 x12 x13 i o (k+1)=Qy n1 (aa ae f1) n3 (aa ae f3) (aa [Ty.sl ae] f5) x7 x9 x10 x11 x12 x13 i k (Hq n1 (aa ae f1) n3 (aa ae f3) (aa [Ty.sl ae] f5) x7 x9 x10 x11 x12 x13 i o k):=rfl
  rw [e] at ih
  have di:=dqt (p:=(0:Int)<=(i:Int)/\(i:Int) < ((aO n1 (aa ae f1) x9 x10 x13).length:Int)) (by omega)
  have dk:=dqt (p:=(0:Int)<=(k:Int)/\(k:Int) < ((aO n3 (aa ae f3) x11 x12 x13).length:Int)) (by omega)
  refine fA (dqt (by omega)) (aM di (aM dk (aC (ah2 hp (dW (aa ae f1) 0 0 hp.1) (dW (aa ae f3) 0 0 hp.2.1)) (af (evObi (evObi (evObi (evObi (evObi (evObi (evBr (fun a=>aQ ?_) (fun a=>aM di (aM dk (aC hp (af (evBr (fun c=>aQ ?_) (fun c=>aQ ?_)))))))))))))))))
  ·have a:AF n1 (aa ae f1) n3 (aa ae f3) (aa [Ty.sl ae] f5) x7 x9 x10 x11 x12 x13 i k=true:=a
   unfold Qy at ih
   rw [a] at ih
   exact ih
  ·have a:AF n1 (aa ae f1) n3 (aa ae f3) (aa [Ty.sl ae] f5) x7 x9 x10 x11 x12 x13 i k=false:=a
   unfold Qy at ih
   rw [a,c] at ih
   exact ih
  ·have a:AF n1 (aa ae f1) n3 (aa ae f3) (aa [Ty.sl ae] f5) x7 x9 x10 x11 x12 x13 i k=false:=a
   unfold Qy at ih
   rw [a,c] at ih
   rw [c]
   exact ih
 ·have e:k=(aO n3 (aa ae f3) x11 x12 x13).length:=by omega
  refine ft (jx (by omega)) ?_
  rw [e]
  exact aQ nx
theorem VO:∀ i,i<=(aO n1 (aa ae f1) x9 x10 x13).length->Ev (qM s0 n1 f1 n3 f3 n5 f5 x7 x8 x9 x10 x11 x12 x13) (.L0 (i:Int) (U9 n1 (aa ae f1) n3 (aa ae f3) (aa [Ty.sl ae] f5) x7 x9 x10 x11 x12 x13 i).1 (U9 n1 (aa ae f1) n3 (aa ae f3) (aa [Ty.sl ae] f5) x7 x9 x10 x11 x12 x13 i).2.1 (U9 n1 (aa ae f1) n3 (aa ae f3) (aa [Ty.sl ae] f5) x7 x9 x10 x11 x12 x13 i).2.2) (.agg [.int .i64 (gh n1 (aa ae f1) n3 (aa ae f3) (aa [Ty.sl ae] f5) x7 x9 x10 x11 x12 x13),.int .i64 (gn n1 (aa ae f1) n3 (aa ae f3) (aa [Ty.sl ae] f5) x7 x9 x10 x11 x12 x13)]):=by
 refine dH fun i hi ih=>Ev.of rfl (bk fun hn=>?_)
 by_cases hlt:i < (aO n1 (aa ae f1) x9 x10 x13).length
 ·have hw:i64.wrap ((i:Int)+1)=((i+1:Nat):Int):=by rw [wrapI (by omega) (by omega)]; omega
  have ih:=ih hlt
  rw [← hw] at ih
  exact fA (dqt (by omega)) (aH (QQ s0 n1 f1 n3 f3 n5 f5 x7 x8 x9 x10 x11 x12 x13 hp i hlt (U9 n1 (aa ae f1) n3 (aa ae f3) (aa [Ty.sl ae] f5) x7 x9 x10 x11 x12 x13 i) ih 0 (Nat.zero_le _)))
 ·have e:i=(aO n1 (aa ae f1) x9 x10 x13).length:=by omega
  refine ft (jx (by omega)) ?_
  rw [e]
  exact evRet rfl
end
section
variable (s0:ByteArray) (n1:Nat) (f1:ah) (n3:Nat) (f3:ah) (n5:Nat) (f5:ah) (x7 x8 x9 x10 x11 x12 x13:Int) (hp:eU n1 (aa ae f1) n3 (aa ae f3) n5 (aa [.sl ae] f5) x13)
include s0 n1 f1 n3 f3 n5 f5 x7 x8 x9 x10 x11 x12 x13 hp
theorem Pz:aN (Ev (qM s0 n1 f1 n3 f3 n5 f5 x7 x8 x9 x10 x11 x12 x13)) (PL s0 n1 f1 n3 f3 n5 f5 x7 x8 x9 x10 x11 x12 x13) (.agg [.int .i64 (gh n1 (aa ae f1) n3 (aa ae f3) (aa [.sl ae] f5) x7 x9 x10 x11 x12 x13),.int .i64 (gn n1 (aa ae f1) n3 (aa ae f3) (aa [.sl ae] f5) x7 x9 x10 x11 x12 x13)]):=by
 have ha:=hp.1
 have hb:=hp.2.1
 exact aC ha.2 (af (aC hb.2 (af (aH (VO s0 n1 f1 n3 f3 n5 f5 x7 x8 x9 x10 x11 x12 x13 hp 0 (Nat.zero_le _))))))
theorem Z6:aN (Ev (qM s0 n1 f1 n3 f3 n5 f5 x7 x8 x9 x10 x11 x12 x13)) (PL s0 n1 f1 n3 f3 n5 f5 x7 x8 x9 x10 x11 x12 x13) (.agg [.int .i64 (gh n1 (aa ae f1) n3 (aa ae f3) (aa [.sl ae] f5) x7 x9 x10 x11 x12 x13),.int .i64 (gn n1 (aa ae f1) n3 (aa ae f3) (aa [.sl ae] f5) x7 x9 x10 x11 x12 x13)]):=Pz s0 n1 f1 n3 f3 n5 f5 x7 x8 x9 x10 x11 x12 x13 hp
end
def Yh:aB:=bI [.agg al,.agg iu,tI] (fun
 | [.agg [.str s0,.sl n1 f1,.sl n3 f3,.sl n5 f5,.int _ x7,.int _ x8],.agg [.int _ x9,.int _ x10,.int _ x11,.int _ x12],.int _ x13]=>eU n1 f1 n3 f3 n5 f5 x13
 | _=>False) fun
 | [.agg [.str s0,.sl n1 f1,.sl n3 f3,.sl n5 f5,.int _ x7,.int _ x8],.agg [.int _ x9,.int _ x10,.int _ x11,.int _ x12],.int _ x13]=>.agg [.int .i64 (gh n1 f1 n3 f3 f5 x7 x9 x10 x11 x12 x13),.int .i64 (gn n1 f1 n3 f3 f5 x7 x9 x10 x11 x12 x13)]
 | _=>.any
theorem ads:(vP Yh).Ok Tryz.prog 231:=bY Mt Tryz.func231 (by kernel_rfl) fun ds hp=>jE (Ud ..) (Z6 _ _ _ _ _ _ _ _ _ _ _ _ _ _ hp)
theorem alp {x:List V} {H:Int} (t:nr x) (u:nm (au (hdV (ab x))) (bj (hdV (ab x)))) (v:nm (au (hdV (ab (ab x)))) (bj (hdV (ab (ab x))))) (h:1<=H/\H<=30000) :
 eU (au (hdV (ab x))) (bj (hdV (ab x))) (au (hdV (ab (ab x)))) (bj (hdV (ab (ab x)))) (HG x) (va x) H:=by
 have key:∀ {n:Nat} {f:Nat->List V},nm n f->∀ i:Nat,i+1 < n->i64.wrap (i64.wrap (ay (f (i+1)) - ay (f i)) * H) ≠ 0:=by
  intro n f w i hi
  have hu:=w.u i hi
  have r0:=w.r i (by omega)
  have r1:=w.r (i+1) hi
  rw [wrapI (x:=ay (f (i+1)) - ay (f i)) (by omega) (by omega)]
  have h1:(ay (f (i+1)) - ay (f i)) * H<=10000 * H:=Int.mul_le_mul_of_nonneg_right (by omega) (by omega)
  have h2:0 < (ay (f (i+1)) - ay (f i)) * H:=Int.mul_pos (by omega) (by omega)
  rw [wrapI (by omega) (by omega)]
  omega
 refine ⟨⟨t.u.1,by have:=t.u.2; omega⟩,⟨t.v.1,by have:=t.v.2; omega⟩,by rw [t.n]; exact Nat.le_refl _,fun i hi=>?_,key u,key v⟩
 have:=t.row i hi
 show _<=au (hdV (va x i))
 omega
theorem amN {n0:Nat} {f0:Nat->List V} {n2:Nat} {f2:Nat->List V} {x4:Int} (h:ed n0 f0 n2 f2 x4=0) :
 (0<=x4/\x4 < (n2:Int))/\(0<=ba (f2 x4.toNat)/\ba (f2 x4.toNat) < (n0:Int))/\ga (aa al (aa al f0)) (ba (f2 x4.toNat)).toNat=0:=by
 unfold ed at h
 have e:b8 n0 (aa al f0) n2 (aa am f2)=0:=by
  by_cases e:b8 n0 (aa al f0) n2 (aa am f2)=0
  ·exact e
  ·have:(b8 n0 (aa al f0) n2 (aa am f2) == 0)=false:=by simpa using e
   rw [this] at h
   exact h
 have v:yj n0 (aa al f0) n2 (aa am f2):=tT e
 rw [e] at h
 have hb:(!aA x4 0 (i64.wrap ((n2:Int) - 1)))=false:=by
  cases hh:(!aA x4 0 (i64.wrap ((n2:Int) - 1))) with
  | false=>rfl
  | true=>rw [hh] at h; cases h
 have l2:=v.l2
 have r:=of_decide_eq_true (inT (by omega) hb)
 have lm:=(OJ (a:=x4.toNat) v.l0 (v.lm x4.toNat (by omega))).t
 have lm:0<=ba (f2 x4.toNat)/\ba (f2 x4.toNat) < (n0:Int):=lm
 exact ⟨r,lm,v.tb _ (by omega)⟩
def Lz:bd:=(231,.con Yh)::AU
theorem JF:aR Tryz.prog eqs its Lz:=.con ads (Mt)
section
variable (n0:Nat) (f0:ah) (n2:Nat) (f2:ah) (x4 x5 x6 x7 x8 x9 x10 x11 x12:Int)
include n0 f0 n2 f2 x4 x5 x6 x7 x8 x9 x10 x11 x12
def sd:RT Empty:=.ob (decide (0<=x4/\x4 < (↑n2:Int))) (.obc (.obt (.ob (decide (0<=ba (f2 x4.toNat)/\ba (f2 x4.toNat) < (↑n0:Int))) (.obp (((2:Nat)<=au (hdV (ab (f0 (ba (f2 x4.toNat)).toNat)))/\au (hdV (ab (f0 (ba (f2 x4.toNat)).toNat)))<=(1000:Nat))/\((2:Nat)<=au (hdV (ab (ab (f0 (ba (f2 x4.toNat)).toNat))))/\au (hdV (ab (ab (f0 (ba (f2 x4.toNat)).toNat))))<=(1000:Nat))/\au (hdV (ab (f0 (ba (f2 x4.toNat)).toNat)))<=au (hdV (ab (ab (ab (f0 (ba (f2 x4.toNat)).toNat)))))/\(∀ (i:Nat),i < au (hdV (ab (ab (ab (f0 (ba (f2 x4.toNat)).toNat)))))->au (hdV (ab (ab (f0 (ba (f2 x4.toNat)).toNat))))<=au (hdV (bj (hdV (ab (ab (ab (f0 (ba (f2 x4.toNat)).toNat))))) i)))/\(∀ (i:Nat),i+(1:Nat) < au (hdV (ab (f0 (ba (f2 x4.toNat)).toNat)))->i64.wrap (i64.wrap (ay (bj (hdV (ab (f0 (ba (f2 x4.toNat)).toNat))) (i+(1:Nat))) - ay (bj (hdV (ab (f0 (ba (f2 x4.toNat)).toNat))) i)) * x12) ≠ (0:Int))/\∀ (i:Nat),i+(1:Nat) < au (hdV (ab (ab (f0 (ba (f2 x4.toNat)).toNat))))->i64.wrap (i64.wrap (ay (bj (hdV (ab (ab (f0 (ba (f2 x4.toNat)).toNat)))) (i+(1:Nat))) - ay (bj (hdV (ab (ab (f0 (ba (f2 x4.toNat)).toNat)))) i)) * x12) ≠ (0:Int)) (.obt (.obp ((1000:Int)=(0:Int)->False) (.obt (.obp ((1000:Int)=(0:Int)->False) (.obt (.ret (V.tup [V.agg [vi (cX (i64.wrap (gh (au (hdV (ab (f0 (ba (f2 x4.toNat)).toNat)))) (fun i=>ao ae (bj (hdV (ab (f0 (ba (f2 x4.toNat)).toNat))) i)) (au (hdV (ab (ab (f0 (ba (f2 x4.toNat)).toNat))))) (fun i=>ao ae (bj (hdV (ab (ab (f0 (ba (f2 x4.toNat)).toNat)))) i)) (fun i=>ao [Ty.sl ae] (bj (hdV (ab (ab (ab (f0 (ba (f2 x4.toNat)).toNat))))) i)) (cv (f0 (ba (f2 x4.toNat)).toNat)) x8 x9 x10 x11 x12 * mP (cM (f2 x4.toNat)) (be (ab (ab (ab (f2 x4.toNat))))) (be (ab (ab (ab (ab (ab (f2 x4.toNat))))))) x5 x6 x7)) 1000),vi (dM (i64.wrap (gn (au (hdV (ab (f0 (ba (f2 x4.toNat)).toNat)))) (fun i=>ao ae (bj (hdV (ab (f0 (ba (f2 x4.toNat)).toNat))) i)) (au (hdV (ab (ab (f0 (ba (f2 x4.toNat)).toNat))))) (fun i=>ao ae (bj (hdV (ab (ab (f0 (ba (f2 x4.toNat)).toNat)))) i)) (fun i=>ao [Ty.sl ae] (bj (hdV (ab (ab (ab (f0 (ba (f2 x4.toNat)).toNat))))) i)) (cv (f0 (ba (f2 x4.toNat)).toNat)) x8 x9 x10 x11 x12 * m9 (cM (f2 x4.toNat)) (be (ab (ab (f2 x4.toNat)))) (be (ab (ab (ab (ab (f2 x4.toNat)))))) x5 x6 x7)) 1000)],vi 0])))))))))))
def Gd:RT Empty:=.obc (.obt (.br (d0 x8 x9 x10 x11 x12 != 0) (.ret (V.tup [V.agg [vi 0,vi 0],vi (d0 x8 x9 x10 x11 x12)])) (sd n0 f0 n2 f2 x4 x5 x6 x7 x8 x9 x10 x11 x12)))
def NV:RT Empty:=.obp ((∀ (i:Nat),i < n0->(sv (hdV (f0 i))).size<=(9223372036854775807:Nat))/\∀ (i:Nat),i < n2->(sv (hdV (f2 i))).size<=(9223372036854775807:Nat)) (.obt (.br (ed n0 (aa al f0) n2 (aa am f2) x4 == 0) (.obc (.obt (.br (eQ x5 x6 x7 == 0) (Gd n0 f0 n2 f2 x4 x5 x6 x7 x8 x9 x10 x11 x12) (.br (eQ x5 x6 x7 != 0) (.ret (V.tup [V.agg [vi 0,vi 0],vi (eQ x5 x6 x7)])) (sd n0 f0 n2 f2 x4 x5 x6 x7 x8 x9 x10 x11 x12))))) (.br (ed n0 (aa al f0) n2 (aa am f2) x4 == 0) (Gd n0 f0 n2 f2 x4 x5 x6 x7 x8 x9 x10 x11 x12) (.br (ed n0 (aa al f0) n2 (aa am f2) x4 != 0) (.ret (V.tup [V.agg [vi 0,vi 0],vi (ed n0 (aa al f0) n2 (aa am f2) x4)])) (sd n0 f0 n2 f2 x4 x5 x6 x7 x8 x9 x10 x11 x12)))))
theorem UX:dh dm (aS JJ Lz u0 akG [V.agg [V.sl n0 (aa al f0),V.sl n2 (aa am f2)],vi x4,V.agg [vi x5,vi x6,vi x7],V.agg [vi x8,vi x9,vi x10,vi x11],vi x12]) (NV n0 f0 n2 f2 x4 x5 x6 x7 x8 x9 x10 x11 x12):=⟨by kernel_rfl,by kernel_rfl⟩
end
def Yj (x:List V) (a c d e h:Int):Int:=gh (au (hdV (ab x))) (bj (hdV (ab x))) (au (hdV (ab (ab x)))) (bj (hdV (ab (ab x)))) (va x) (cv x) a c d e h
def ZD (x:List V) (a c d e h:Int):Int:=gn (au (hdV (ab x))) (bj (hdV (ab x))) (au (hdV (ab (ab x)))) (bj (hdV (ab (ab x)))) (va x) (cv x) a c d e h
def JX (n0:Nat) (f0:ah) (n2:Nat) (f2:ah) (x4 x5 x6 x7 x8 x9 x10 x11 x12:Int):Int:=bif ed n0 f0 n2 f2 x4 == 0 then bif eQ x5 x6 x7 == 0 then d0 x8 x9 x10 x11 x12 else eQ x5 x6 x7 else ed n0 f0 n2 f2 x4
def dwL (n0:Nat) (f0:ah) (n2:Nat) (f2:ah) (x4 x5 x6 x7 x8 x9 x10 x11 x12:Int):Int:=cX (i64.wrap (Yj (f0 (ba (f2 x4.toNat)).toNat) x8 x9 x10 x11 x12 * mP (cM (f2 x4.toNat)) (be (ab (ab (ab (f2 x4.toNat))))) (be (ab (ab (ab (ab (ab (f2 x4.toNat))))))) x5 x6 x7)) 1000
def dwH (n0:Nat) (f0:ah) (n2:Nat) (f2:ah) (x4 x5 x6 x7 x8 x9 x10 x11 x12:Int):Int:=dM (i64.wrap (ZD (f0 (ba (f2 x4.toNat)).toNat) x8 x9 x10 x11 x12 * m9 (cM (f2 x4.toNat)) (be (ab (ab (f2 x4.toNat)))) (be (ab (ab (ab (ab (f2 x4.toNat)))))) x5 x6 x7)) 1000
section
variable (n0:Nat) (f0:ah) (n2:Nat) (f2:ah) (x4 x5 x6 x7 x8 x9 x10 x11 x12:Int)
include n0 f0 n2 f2 x4 x5 x6 x7 x8 x9 x10 x11 x12
def fZ:Int:=bif JX n0 f0 n2 f2 x4 x5 x6 x7 x8 x9 x10 x11 x12 == 0 then dwL n0 f0 n2 f2 x4 x5 x6 x7 x8 x9 x10 x11 x12 else 0
def gp:Int:=bif JX n0 f0 n2 f2 x4 x5 x6 x7 x8 x9 x10 x11 x12 == 0 then dwH n0 f0 n2 f2 x4 x5 x6 x7 x8 x9 x10 x11 x12 else 0
def iT:Int:=JX n0 f0 n2 f2 x4 x5 x6 x7 x8 x9 x10 x11 x12
theorem Ix (hp:aE n0 (aa al f0)/\aE n2 (aa am f2)):aN cr (NV n0 f0 n2 f2 x4 x5 x6 x7 x8 x9 x10 x11 x12) (.tup [.agg [.int .i64 (fZ n0 (aa al f0) n2 (aa am f2) x4 x5 x6 x7 x8 x9 x10 x11 x12),.int .i64 (gp n0 (aa al f0) n2 (aa am f2) x4 x5 x6 x7 x8 x9 x10 x11 x12)],.int .i64 (iT n0 (aa al f0) n2 (aa am f2) x4 x5 x6 x7 x8 x9 x10 x11 x12)]):=by
 have bad:∀ {e:Int},JX n0 (aa al f0) n2 (aa am f2) x4 x5 x6 x7 x8 x9 x10 x11 x12=e->e ≠ 0->aN cr (.ret (V.tup [V.agg [vi 0,vi 0],vi e])) (.tup [.agg [.int .i64 (fZ n0 (aa al f0) n2 (aa am f2) x4 x5 x6 x7 x8 x9 x10 x11 x12),.int .i64 (gp n0 (aa al f0) n2 (aa am f2) x4 x5 x6 x7 x8 x9 x10 x11 x12)],.int .i64 (iT n0 (aa al f0) n2 (aa am f2) x4 x5 x6 x7 x8 x9 x10 x11 x12)]):=fun h h0=>evRet (by
  unfold fZ gp iT; rw [h,show (_ == (0:Int))=false from by simpa using h0]; rfl)
 have L1:ed n0 (aa al f0) n2 (aa am f2) x4=0->eQ x5 x6 x7=0->d0 x8 x9 x10 x11 x12=0->aN cr (sd n0 f0 n2 f2 x4 x5 x6 x7 x8 x9 x10 x11 x12) (.tup [.agg [.int .i64 (fZ n0 (aa al f0) n2 (aa am f2) x4 x5 x6 x7 x8 x9 x10 x11 x12),.int .i64 (gp n0 (aa al f0) n2 (aa am f2) x4 x5 x6 x7 x8 x9 x10 x11 x12)],.int .i64 (iT n0 (aa al f0) n2 (aa am f2) x4 x5 x6 x7 x8 x9 x10 x11 x12)]):=fun h0 hw hr=>by
  have ht:JX n0 (aa al f0) n2 (aa am f2) x4 x5 x6 x7 x8 x9 x10 x11 x12=0:=by unfold JX; rw [h0,hw,hr]; rfl
  have hb:=amN h0
  have tb:=Bn hb.2.2
  have up:=acA hb.2.2
  have hH:1<=x12/\x12<=30000:=by
   unfold d0 at hr
   cases hh:aA x12 1 30000 with
   | true=>exact u7 hh
   | false=>rw [hh] at hr; cases hr
  have vw:=alp (H:=x12) tb up.1 up.2 hH
  exact aM (dqt hb.1) (av (af (aM (dqt hb.2.1) (aC vw (af (aC (by decide) (af (aC (by decide) (af (evRet (by
   unfold fZ gp iT; rw [ht]; rfl)))))))))))
 refine aC hp (af (evBr (fun h=>av (af (evBr (fun h2=>av (af (evBr (fun h3=>?_) (fun h3=>L1 (eq_of_beq h) (eq_of_beq h2) (by simpa using h3))))) (fun h2=>evBr (fun h3=>?_) (fun h3=>?_))))) (fun h=>evBr (fun h2=>?_) (fun h2=>evBr (fun h3=>?_) (fun h3=>?_)))))
 ·exact bad (by unfold JX; rw [h,h2]; rfl) (by simpa using h3)
 ·exact bad (by unfold JX; rw [h,h2]; rfl) (by simpa using h3)
 ·exact absurd (by simpa using h3:eQ x5 x6 x7=0) (by simpa using h2)
 ·exact absurd h2 (by rw [h]; decide)
 ·exact bad (by unfold JX; rw [h]; rfl) (by simpa using h3)
 ·exact absurd (by simpa using h3:ed n0 (aa al f0) n2 (aa am f2) x4=0) (by simpa using h)
theorem adb (hp:aE n0 (aa al f0)/\aE n2 (aa am f2)):aN cr (NV n0 f0 n2 f2 x4 x5 x6 x7 x8 x9 x10 x11 x12) (.tup [.agg [.int .i64 (fZ n0 (aa al f0) n2 (aa am f2) x4 x5 x6 x7 x8 x9 x10 x11 x12),.int .i64 (gp n0 (aa al f0) n2 (aa am f2) x4 x5 x6 x7 x8 x9 x10 x11 x12)],.int .i64 (iT n0 (aa al f0) n2 (aa am f2) x4 x5 x6 x7 x8 x9 x10 x11 x12)]):=Ix n0 f0 n2 f2 x4 x5 x6 x7 x8 x9 x10 x11 x12 hp
end
def Xi:aB:=bI [.agg [.sl al,.sl am],tI,.agg bG,.agg iu,tI] (fun
 | [.agg [.sl n0 f0,.sl n2 f2],.int _ x4,.agg [.int _ x5,.int _ x6,.int _ x7],.agg [.int _ x8,.int _ x9,.int _ x10,.int _ x11],.int _ x12]=>aE n0 f0/\aE n2 f2
 | _=>False) fun
 | [.agg [.sl n0 f0,.sl n2 f2],.int _ x4,.agg [.int _ x5,.int _ x6,.int _ x7],.agg [.int _ x8,.int _ x9,.int _ x10,.int _ x11],.int _ x12]=>.tup [.agg [.int .i64 (fZ n0 f0 n2 f2 x4 x5 x6 x7 x8 x9 x10 x11 x12),.int .i64 (gp n0 f0 n2 f2 x4 x5 x6 x7 x8 x9 x10 x11 x12)],.int .i64 (iT n0 f0 n2 f2 x4 x5 x6 x7 x8 x9 x10 x11 x12)]
 | _=>.any
theorem adq:(vP Xi).Ok Tryz.prog 175:=bY JF Tryz.func175 (by kernel_rfl) fun ds hp=>dG (UX ..) (adb _ _ _ _ _ _ _ _ _ _ _ _ _ hp)
theorem Rs (n0:Nat) (f0:ah) (n2:Nat) (f2:ah) (x:Int):bX n0 f0 n2 f2 x=ed n0 f0 n2 f2 x:=by
 have c:bC n0 (aa al f0) n2 (aa am f2)=b8 n0 (aa al f0) n2 (aa am f2):=congrArg (fun p=>p.2.2) (m4 n0 (aa al f0) n2 (aa am f2))
 unfold bX ed
 rw [c]
 generalize b8 n0 (aa al f0) n2 (aa am f2)=e
 by_cases he:e=0
 ·subst he; rfl
 ·rw [show (e != 0)=true from by simpa using he,show (e == 0)=false from by simpa using he]; rfl
theorem S5 (a b c:Int):(bif gx a b c then (7:Int) else 0)=eQ a b c:=by
 unfold gx eQ
 have h:∀ x l u,ar x l u=aA x l u:=fun _ _ _=>rfl
 rw [h,h,h]
 cases aA a 0 200000 <;> cases aA b 0 600 <;> cases aA c 0 1000 <;> rfl
def AC (S:Int->Int->Prop) (g0 g1:Int->Int->Int) (o:Int × Int):Prop:=(∃ u v,S u v/\g0 u v=o.1)/\∃ u v,S u v/\g1 u v=o.2
def qH (g0 g1:Int->Int->Int) (u v:Int) (o:Int × Int):Prop:=o.1<=g0 u v/\g1 u v<=o.2
def yf (a b:Int × Int):Prop:=a.1<=b.1/\b.2<=a.2
theorem yf.refl (a:Int × Int):yf a a:=⟨Int.le_refl _,Int.le_refl _⟩
theorem yf.trans {a b c:Int × Int} (h:yf a b) (k:yf b c):yf a c:=⟨Int.le_trans h.1 k.1,Int.le_trans k.2 h.2⟩
theorem qH.le {g0 g1:Int->Int->Int} {u v:Int} {o p:Int × Int} (h:qH g0 g1 u v o) (k:yf p o):qH g0 g1 u v p:=⟨Int.le_trans k.1 h.1,Int.le_trans h.2 k.2⟩
theorem ajP {S:Int->Int->Prop} {g0 g1:Int->Int->Int} {a b:Int × Int} (h:AC S g0 g1 a) (c:∀ u v,S u v->qH g0 g1 u v a) (k:AC S g0 g1 b) (d:∀ u v,S u v->qH g0 g1 u v b):a=b:=by
 obtain ⟨⟨u,v,s,e⟩,⟨p,q,t,f⟩⟩:=h
 obtain ⟨⟨u',v',s',e'⟩,⟨p',q',t',f'⟩⟩:=k
 have h1:=(d u v s).1
 have h2:=(c u' v' s').1
 have h3:=(d p q t).2
 have h4:=(c p' q' t').2
 have x1:a.1=b.1:=by omega
 have x2:a.2=b.2:=by omega
 exact Prod.ext x1 x2
theorem oY {S:Int->Int->Prop} {g0 g1:Int->Int->Int} {o:Int × Int} {u v:Int} (h:AC S g0 g1 o) (s:S u v):AC S g0 g1 (min o.1 (g0 u v),max o.2 (g1 u v)):=by
 obtain ⟨⟨a,b,s1,e1⟩,⟨c,d,s2,e2⟩⟩:=h
 refine ⟨?_,?_⟩
 ·show ∃ u' v',S u' v'/\g0 u' v'=min o.1 (g0 u v)
  rw [Int.min_def]
  split
  ·exact ⟨a,b,s1,e1⟩
  ·exact ⟨u,v,s,rfl⟩
 ·show ∃ u' v',S u' v'/\g1 u' v'=max o.2 (g1 u v)
  rw [Int.max_def]
  split
  ·exact ⟨u,v,s,rfl⟩
  ·exact ⟨c,d,s2,e2⟩
theorem FK {g0 g1:Int->Int->Int} {o:Int × Int} {u v:Int}:yf (min o.1 (g0 u v),max o.2 (g1 u v)) o/\qH g0 g1 u v (min o.1 (g0 u v),max o.2 (g1 u v)) :=
 ⟨⟨Int.min_le_left _ _,Int.le_max_left _ _⟩,⟨Int.min_le_right _ _,Int.le_max_right _ _⟩⟩
section
variable (f5:ah) (x7:Int) (n9:Nat) (f9:ah) (n11:Nat) (f11:ah)
def HM (n:Nat) (f:Nat->List V) (a b u:Int):Prop:=u=a ∨ u=b ∨ ∃ j,j < n/\yI a b (ay (f j))=true/\u=ay (f j)
theorem BY {S:Int->Int->Prop} {u v:Int} {o:Int × Int} (h:AC S (aY f5 n9 f9 n11 f11) (aZ f5 x7 n9 f9 n11 f11) o) (s:bc n9 f9 n11 f11 u v=true->S u v):AC S (aY f5 n9 f9 n11 f11) (aZ f5 x7 n9 f9 n11 f11) (JI f5 x7 n9 f9 n11 f11 u v o):=by
 cases hb:bc n9 f9 n11 f11 u v with
 | true=>rw [nG hb]; exact oY h (s hb)
 | false=>rw [pT hb]; exact h
theorem yan (u v:Int) (o:Int × Int):yf (JI f5 x7 n9 f9 n11 f11 u v o) o:=by
 cases hb:bc n9 f9 n11 f11 u v with
 | true=>rw [nG hb]; exact (FK (g0:=aY f5 n9 f9 n11 f11) (g1:=aZ f5 x7 n9 f9 n11 f11)).1
 | false=>rw [pT hb]; exact yf.refl o
theorem BL (u v:Int) (o:Int × Int) (hb:bc n9 f9 n11 f11 u v=true):qH (aY f5 n9 f9 n11 f11) (aZ f5 x7 n9 f9 n11 f11) u v (JI f5 x7 n9 f9 n11 f11 u v o):=by
 rw [nG hb]; exact (FK (g0:=aY f5 n9 f9 n11 f11) (g1:=aZ f5 x7 n9 f9 n11 f11)).2
theorem sG {y0 y1 u:Int} {o:Int × Int}:∀ k,k<=n11 ->
 (∀ S:Int->Int->Prop,AC S (aY f5 n9 f9 n11 f11) (aZ f5 x7 n9 f9 n11 f11) o->(∀ v,HM n11 f11 y0 y1 v->bc n9 f9 n11 f11 u v=true->S u v)->AC S (aY f5 n9 f9 n11 f11) (aZ f5 x7 n9 f9 n11 f11) (yH f5 x7 n9 f9 n11 f11 y0 y1 u o k)) /\
 yf (yH f5 x7 n9 f9 n11 f11 y0 y1 u o k) o /\
 ∀ j,j < k->yI y0 y1 (ay (f11 j))=true->bc n9 f9 n11 f11 u (ay (f11 j))=true->qH (aY f5 n9 f9 n11 f11) (aZ f5 x7 n9 f9 n11 f11) u (ay (f11 j)) (yH f5 x7 n9 f9 n11 f11 y0 y1 u o k)
 | 0,_=>⟨fun S h _=>h,yf.refl o,fun j hj=>absurd hj (Nat.not_lt_zero j)⟩
 | k + 1,hk=>by
   obtain ⟨h1,h2,h3⟩:=sG (y0:=y0) (y1:=y1) (u:=u) (o:=o) k (by omega)
   cases hb:yI y0 y1 (ay (f11 k)) with
   | false =>
     rw [Fs hb]
     refine ⟨h1,h2,fun j hj a b=>?_⟩
     rcases Nat.lt_succ_iff_lt_or_eq.1 hj with h | h
     ·exact h3 j h a b
     ·subst h; rw [hb] at a; cases a
   | true =>
     rw [tx hb]
     refine ⟨fun S h s=>BY f5 x7 n9 f9 n11 f11 (h1 S h s) (s _ (.inr (.inr ⟨k,by omega,hb,rfl⟩))),yf.trans (yan ..) h2,fun j hj a b=>?_⟩
     rcases Nat.lt_succ_iff_lt_or_eq.1 hj with h | h
     ·exact qH.le (h3 j h a b) (yan ..)
     ·subst h; exact BL _ _ _ _ _ _ _ _ _ b
theorem uG {y0 y1 u:Int} {o:Int × Int} {S:Int->Int->Prop} (h:AC S (aY f5 n9 f9 n11 f11) (aZ f5 x7 n9 f9 n11 f11) o) (s:∀ v,HM n11 f11 y0 y1 v->bc n9 f9 n11 f11 u v=true->S u v):AC S (aY f5 n9 f9 n11 f11) (aZ f5 x7 n9 f9 n11 f11) (TK f5 x7 n9 f9 n11 f11 y0 y1 u o) :=
 (sG f5 x7 n9 f9 n11 f11 n11 (Nat.le_refl _)).1 S (BY _ _ _ _ _ _ (BY _ _ _ _ _ _ h (s _ (.inl rfl))) (s _ (.inr (.inl rfl)))) s
theorem tq (y0 y1 u:Int) (o:Int × Int):yf (TK f5 x7 n9 f9 n11 f11 y0 y1 u o) o :=
 yf.trans (sG f5 x7 n9 f9 n11 f11 n11 (Nat.le_refl _)).2.1 (yf.trans (yan ..) (yan ..))
theorem BI {y0 y1 u v:Int} {o:Int × Int} (hv:HM n11 f11 y0 y1 v) (hb:bc n9 f9 n11 f11 u v=true):qH (aY f5 n9 f9 n11 f11) (aZ f5 x7 n9 f9 n11 f11) u v (TK f5 x7 n9 f9 n11 f11 y0 y1 u o):=by
 have k:=sG f5 x7 n9 f9 n11 f11 (y0:=y0) (y1:=y1) (u:=u) (o:=BO f5 x7 n9 f9 n11 f11 y0 y1 u o) n11 (Nat.le_refl _)
 rcases hv with h | h | ⟨j,hj,a,e⟩
 ·subst h; exact qH.le (qH.le (BL _ _ _ _ _ _ _ _ _ hb) (yan ..)) k.2.1
 ·subst h; exact qH.le (BL _ _ _ _ _ _ _ _ _ hb) k.2.1
 ·subst e; exact k.2.2 j hj a hb
def uO (x0 x1 y0 y1 u v:Int):Prop:=((u=x0 ∨ u=x1)/\(v=y0 ∨ v=y1)) ∨ (HM n9 f9 x0 x1 u/\HM n11 f11 y0 y1 v/\bc n9 f9 n11 f11 u v=true)
theorem xr {x0 x1 y0 y1:Int} {o:Int × Int} (ho:AC (uO n9 f9 n11 f11 x0 x1 y0 y1) (aY f5 n9 f9 n11 f11) (aZ f5 x7 n9 f9 n11 f11) o):∀ k,k<=n9 ->
 AC (uO n9 f9 n11 f11 x0 x1 y0 y1) (aY f5 n9 f9 n11 f11) (aZ f5 x7 n9 f9 n11 f11) (Bs f5 x7 n9 f9 n11 f11 x0 x1 y0 y1 o k) /\
 yf (Bs f5 x7 n9 f9 n11 f11 x0 x1 y0 y1 o k) o /\
 ∀ j,j < k->yI x0 x1 (ay (f9 j))=true->∀ v,HM n11 f11 y0 y1 v->bc n9 f9 n11 f11 (ay (f9 j)) v=true->qH (aY f5 n9 f9 n11 f11) (aZ f5 x7 n9 f9 n11 f11) (ay (f9 j)) v (Bs f5 x7 n9 f9 n11 f11 x0 x1 y0 y1 o k)
 | 0,_=>⟨ho,yf.refl o,fun j hj=>absurd hj (Nat.not_lt_zero j)⟩
 | k + 1,hk=>by
   obtain ⟨h1,h2,h3⟩:=xr ho k (by omega)
   cases hb:yI x0 x1 (ay (f9 k)) with
   | false =>
     rw [Wu hb]
     refine ⟨h1,h2,fun j hj a v hv b=>?_⟩
     rcases Nat.lt_succ_iff_lt_or_eq.1 hj with h | h
     ·exact h3 j h a v hv b
     ·subst h; rw [hb] at a; cases a
   | true =>
     rw [Zx hb]
     refine ⟨uG _ _ _ _ _ _ h1 (fun v hv hh=>.inr ⟨.inr (.inr ⟨k,by omega,hb,rfl⟩),hv,hh⟩),yf.trans (tq ..) h2,fun j hj a v hv b=>?_⟩
     rcases Nat.lt_succ_iff_lt_or_eq.1 hj with h | h
     ·exact qH.le (h3 j h a v hv b) (tq ..)
     ·subst h; exact BI _ _ _ _ _ _ hv b
theorem NF (x0 x1 y0 y1:Int):AC (uO n9 f9 n11 f11 x0 x1 y0 y1) (aY f5 n9 f9 n11 f11) (aZ f5 x7 n9 f9 n11 f11) (ovH f5 x7 n9 f9 n11 f11 x0 x1 y0 y1) :=
 have a:AC (uO n9 f9 n11 f11 x0 x1 y0 y1) (aY f5 n9 f9 n11 f11) (aZ f5 x7 n9 f9 n11 f11) (aY f5 n9 f9 n11 f11 x0 y0,aZ f5 x7 n9 f9 n11 f11 x0 y0):=⟨⟨x0,y0,.inl ⟨.inl rfl,.inl rfl⟩,rfl⟩,⟨x0,y0,.inl ⟨.inl rfl,.inl rfl⟩,rfl⟩⟩
 oY (oY (oY a (.inl ⟨.inl rfl,.inr rfl⟩)) (.inl ⟨.inr rfl,.inl rfl⟩)) (.inl ⟨.inr rfl,.inr rfl⟩)
theorem adp {x0 x1 y0 y1 u v:Int} (hu:u=x0 ∨ u=x1) (hv:v=y0 ∨ v=y1):qH (aY f5 n9 f9 n11 f11) (aZ f5 x7 n9 f9 n11 f11) u v (ovH f5 x7 n9 f9 n11 f11 x0 x1 y0 y1):=by
 unfold qH ovH
 rcases hu with rfl | rfl <;> rcases hv with rfl | rfl <;> dsimp only <;> omega
theorem ab6 (x0 x1 y0 y1:Int):AC (uO n9 f9 n11 f11 x0 x1 y0 y1) (aY f5 n9 f9 n11 f11) (aZ f5 x7 n9 f9 n11 f11) (ovA f5 x7 n9 f9 n11 f11 x0 x1 y0 y1) :=
 (xr f5 x7 n9 f9 n11 f11 (uG _ _ _ _ _ _ (uG _ _ _ _ _ _ (NF ..) (fun v hv hh=>.inr ⟨.inl rfl,hv,hh⟩)) (fun v hv hh=>.inr ⟨.inr (.inl rfl),hv,hh⟩)) n9 (Nat.le_refl _)).1
theorem acG {x0 x1 y0 y1 u v:Int} (h:uO n9 f9 n11 f11 x0 x1 y0 y1 u v):qH (aY f5 n9 f9 n11 f11) (aZ f5 x7 n9 f9 n11 f11) u v (ovA f5 x7 n9 f9 n11 f11 x0 x1 y0 y1):=by
 have k:=xr f5 x7 n9 f9 n11 f11 (uG _ _ _ _ _ _ (uG _ _ _ _ _ _ (NF f5 x7 n9 f9 n11 f11 x0 x1 y0 y1) (fun v hv hh=>.inr ⟨.inl rfl,hv,hh⟩)) (fun v hv hh=>.inr ⟨.inr (.inl rfl),hv,hh⟩)) n9 (Nat.le_refl _)
 rcases h with ⟨hu,hv⟩ | ⟨hu,hv,hb⟩
 ·exact qH.le (qH.le (qH.le (adp _ _ _ _ _ _ hu hv) (tq ..)) (tq ..)) k.2.1
 ·rcases hu with h | h | ⟨j,hj,a,e⟩
  ·subst h; exact qH.le (qH.le (BI _ _ _ _ _ _ hv hb) (tq ..)) k.2.1
  ·subst h; exact qH.le (BI _ _ _ _ _ _ hv hb) k.2.1
  ·subst e; exact k.2.2 j hj a v hv hb
end
section
variable (n1:Nat) (f1:ah) (n3:Nat) (f3:ah) (f5:ah) (x7 x9 x10 x11 x12 x13:Int)
def rE (u v:Int):Prop:=∃ i k,i < (aO n1 f1 x9 x10 x13).length/\k < (aO n3 f3 x11 x12 x13).length/\AF n1 f1 n3 f3 f5 x7 x9 x10 x11 x12 x13 i k=false/\u=ay (gz (aO n1 f1 x9 x10 x13) i)/\v=ay (gz (aO n3 f3 x11 x12 x13) k)
def dAt (S:Int->Int->Prop) (o:Bool × Int × Int):Prop:=o.1=true ∨ AC S (fun u v=>fF n1 f1 n3 f3 f5 u v x13) (fun u v=>fD n1 f1 n3 f3 f5 x7 u v x13) o.2
def dCv (u v:Int) (o:Bool × Int × Int):Prop:=o.1=false/\qH (fun u v=>fF n1 f1 n3 f3 f5 u v x13) (fun u v=>fD n1 f1 n3 f3 f5 x7 u v x13) u v o.2
theorem ade {S:Int->Int->Prop} {i k:Nat} {o:Bool × Int × Int} (h:dAt n1 f1 n3 f3 f5 x7 x13 S o) (s:AF n1 f1 n3 f3 f5 x7 x9 x10 x11 x12 x13 i k=false->S (ay (gz (aO n1 f1 x9 x10 x13) i)) (ay (gz (aO n3 f3 x11 x12 x13) k))):dAt n1 f1 n3 f3 f5 x7 x13 S (Qy n1 f1 n3 f3 f5 x7 x9 x10 x11 x12 x13 i k o):=by
 unfold Qy
 cases hk:AF n1 f1 n3 f3 f5 x7 x9 x10 x11 x12 x13 i k with
 | true=>exact h
 | false =>
   have s:=s hk
   cases hb:o.1 with
   | true=>exact .inr ⟨⟨_,_,s,(Int.min_self _).symm⟩,⟨_,_,s,(Int.max_self _).symm⟩⟩
   | false =>
     rcases h with h | h
     ·rw [hb] at h; cases h
     ·exact .inr (oY h s)
theorem zo {u v:Int} {i k:Nat} {o:Bool × Int × Int} (h:dCv n1 f1 n3 f3 f5 x7 x13 u v o):dCv n1 f1 n3 f3 f5 x7 x13 u v (Qy n1 f1 n3 f3 f5 x7 x9 x10 x11 x12 x13 i k o):=by
 unfold Qy
 cases hk:AF n1 f1 n3 f3 f5 x7 x9 x10 x11 x12 x13 i k with
 | true=>exact h
 | false =>
   rw [h.1]
   exact ⟨rfl,qH.le h.2 ⟨Int.min_le_left _ _,Int.le_max_left _ _⟩⟩
theorem adV {i k:Nat} {o:Bool × Int × Int} (hk:AF n1 f1 n3 f3 f5 x7 x9 x10 x11 x12 x13 i k=false):dCv n1 f1 n3 f3 f5 x7 x13 (ay (gz (aO n1 f1 x9 x10 x13) i)) (ay (gz (aO n3 f3 x11 x12 x13) k)) (Qy n1 f1 n3 f3 f5 x7 x9 x10 x11 x12 x13 i k o):=by
 unfold Qy
 rw [hk]
 cases hb:o.1 with
 | true=>exact ⟨rfl,⟨Int.min_le_right _ _,Int.le_max_right _ _⟩⟩
 | false=>exact ⟨rfl,⟨Int.min_le_right _ _,Int.le_max_right _ _⟩⟩
theorem Gf {i:Nat} (hi:i < (aO n1 f1 x9 x10 x13).length) {o:Bool × Int × Int} (ho:dAt n1 f1 n3 f3 f5 x7 x13 (rE n1 f1 n3 f3 f5 x7 x9 x10 x11 x12 x13) o):∀ k,k<=(aO n3 f3 x11 x12 x13).length ->
 dAt n1 f1 n3 f3 f5 x7 x13 (rE n1 f1 n3 f3 f5 x7 x9 x10 x11 x12 x13) (Hq n1 f1 n3 f3 f5 x7 x9 x10 x11 x12 x13 i o k) /\
 (∀ u v,dCv n1 f1 n3 f3 f5 x7 x13 u v o->dCv n1 f1 n3 f3 f5 x7 x13 u v (Hq n1 f1 n3 f3 f5 x7 x9 x10 x11 x12 x13 i o k)) /\
 ∀ j,j < k->AF n1 f1 n3 f3 f5 x7 x9 x10 x11 x12 x13 i j=false->dCv n1 f1 n3 f3 f5 x7 x13 (ay (gz (aO n1 f1 x9 x10 x13) i)) (ay (gz (aO n3 f3 x11 x12 x13) j)) (Hq n1 f1 n3 f3 f5 x7 x9 x10 x11 x12 x13 i o k)
 | 0,_=>⟨ho,fun _ _ h=>h,fun j hj=>absurd hj (Nat.not_lt_zero j)⟩
 | k+1,hk=>by
   obtain ⟨h1,h2,h3⟩:=Gf hi ho k (by omega)
   refine ⟨ade _ _ _ _ _ _ _ _ _ _ _ h1 (fun s=>⟨i,k,hi,by omega,s,rfl,rfl⟩),fun u v h=>zo _ _ _ _ _ _ _ _ _ _ _ (h2 u v h),fun j hj a=>?_⟩
   rcases Nat.lt_succ_iff_lt_or_eq.1 hj with h | h
   ·exact zo _ _ _ _ _ _ _ _ _ _ _ (h3 j h a)
   ·subst h; exact adV _ _ _ _ _ _ _ _ _ _ _ a
theorem Fg:∀ i,i<=(aO n1 f1 x9 x10 x13).length ->
 dAt n1 f1 n3 f3 f5 x7 x13 (rE n1 f1 n3 f3 f5 x7 x9 x10 x11 x12 x13) (U9 n1 f1 n3 f3 f5 x7 x9 x10 x11 x12 x13 i) /\
 ∀ j k,j < i->k < (aO n3 f3 x11 x12 x13).length->AF n1 f1 n3 f3 f5 x7 x9 x10 x11 x12 x13 j k=false->dCv n1 f1 n3 f3 f5 x7 x13 (ay (gz (aO n1 f1 x9 x10 x13) j)) (ay (gz (aO n3 f3 x11 x12 x13) k)) (U9 n1 f1 n3 f3 f5 x7 x9 x10 x11 x12 x13 i)
 | 0,_=>⟨.inl rfl,fun j k hj=>absurd hj (Nat.not_lt_zero j)⟩
 | i+1,hi=>by
   obtain ⟨h1,h2⟩:=Fg i (by omega)
   obtain ⟨k1,k2,k3⟩:=Gf n1 f1 n3 f3 f5 x7 x9 x10 x11 x12 x13 (i:=i) (by omega) h1 _ (Nat.le_refl _)
   refine ⟨k1,fun j k hj hk a=>?_⟩
   rcases Nat.lt_succ_iff_lt_or_eq.1 hj with h | h
   ·exact k2 _ _ (h2 j k h hk a)
   ·subst h; exact k3 k hk a
theorem Gq {i k:Nat} (hi:i<=1) (hk:k<=1):AF n1 f1 n3 f3 f5 x7 x9 x10 x11 x12 x13 i k=false:=by
 unfold AF
 rw [show decide (1 < (i:Int))=false from jx (by omega),show decide (1 < (k:Int))=false from jx (by omega)]
 generalize eB n1 f1 n3 f3 _ _ x13=b
 cases b <;> rfl
theorem acg {i k:Nat} (h:eB n1 f1 n3 f3 (ay (gz (aO n1 f1 x9 x10 x13) i)) (ay (gz (aO n3 f3 x11 x12 x13) k)) x13=true):AF n1 f1 n3 f3 f5 x7 x9 x10 x11 x12 x13 i k=false:=by
 unfold AF
 rw [h]; rfl
theorem Sm {i k:Nat} (h:AF n1 f1 n3 f3 f5 x7 x9 x10 x11 x12 x13 i k=false):eB n1 f1 n3 f3 (ay (gz (aO n1 f1 x9 x10 x13) i)) (ay (gz (aO n3 f3 x11 x12 x13) k)) x13=true ∨ (i<=1/\k<=1):=by
 unfold AF at h
 cases hb:eB n1 f1 n3 f3 (ay (gz (aO n1 f1 x9 x10 x13) i)) (ay (gz (aO n3 f3 x11 x12 x13) k)) x13 with
 | true=>exact .inl rfl
 | false =>
   rw [hb] at h
   cases hi:decide (1 < (i:Int)) with
   | true=>rw [hi] at h; cases h
   | false =>
     rw [hi] at h
     have h:decide (1 < (k:Int))=false:=h
     have a:=of_decide_eq_false hi
     have b:=of_decide_eq_false h
     exact .inr ⟨by omega,by omega⟩
theorem Vj:AC (rE n1 f1 n3 f3 f5 x7 x9 x10 x11 x12 x13) (fun u v=>fF n1 f1 n3 f3 f5 u v x13) (fun u v=>fD n1 f1 n3 f3 f5 x7 u v x13) (gh n1 f1 n3 f3 f5 x7 x9 x10 x11 x12 x13,gn n1 f1 n3 f3 f5 x7 x9 x10 x11 x12 x13) /\
 ∀ u v,rE n1 f1 n3 f3 f5 x7 x9 x10 x11 x12 x13 u v->qH (fun u v=>fF n1 f1 n3 f3 f5 u v x13) (fun u v=>fD n1 f1 n3 f3 f5 x7 u v x13) u v (gh n1 f1 n3 f3 f5 x7 x9 x10 x11 x12 x13,gn n1 f1 n3 f3 f5 x7 x9 x10 x11 x12 x13):=by
 have k:=Fg n1 f1 n3 f3 f5 x7 x9 x10 x11 x12 x13 _ (Nat.le_refl _)
 have l1:=(m6 (A1 f1 (i64.wrap (1000 * x9)) (i64.wrap (1000 * x10)) x13) (fun i=>i64.wrap (ay (f1 i) * x13)) (i64.wrap (1000 * x9)) (i64.wrap (1000 * x10)) n1).1
 have l3:=(m6 (A1 f3 (i64.wrap (1000 * x11)) (i64.wrap (1000 * x12)) x13) (fun i=>i64.wrap (ay (f3 i) * x13)) (i64.wrap (1000 * x11)) (i64.wrap (1000 * x12)) n3).1
 have c:=k.2 0 0 (by unfold aO; omega) (by unfold aO; omega) (Gq _ _ _ _ _ _ _ _ _ _ _ (by omega) (by omega))
 refine ⟨?_,fun u v=>?_⟩
 ·rcases k.1 with h | h
  ·rw [c.1] at h; cases h
  ·exact h
 ·rintro ⟨i,j,hi,hj,s,rfl,rfl⟩
  exact (k.2 i j hi hj s).2
end
theorem Dr (p:Nat->Bool) (w:Nat->Int) (a b x:Int):∀ n,x ∈ N7 p w a b n ↔ x=a ∨ x=b ∨ ∃ j,j < n/\p j=true/\x=w j
 | 0=>by
   unfold N7
   simp
 | n + 1=>by
   have ih:=Dr p w a b x n
   unfold N7
   cases hp:p n with
   | true =>
     simp only [cond_true,List.mem_append,List.mem_singleton,ih]
     constructor
     ·rintro ((h | h | ⟨j,hj,h⟩) | h)
      ·exact .inl h
      ·exact .inr (.inl h)
      ·exact .inr (.inr ⟨j,by omega,h⟩)
      ·exact .inr (.inr ⟨n,by omega,hp,h⟩)
     ·rintro (h | h | ⟨j,hj,h1,h2⟩)
      ·exact .inl (.inl h)
      ·exact .inl (.inr (.inl h))
      ·rcases Nat.lt_succ_iff_lt_or_eq.1 hj with h | h
       ·exact .inl (.inr (.inr ⟨j,h,h1,h2⟩))
       ·subst h; exact .inr h2
   | false =>
     simp only [cond_false,ih]
     constructor
     ·rintro (h | h | ⟨j,hj,h⟩)
      ·exact .inl h
      ·exact .inr (.inl h)
      ·exact .inr (.inr ⟨j,by omega,h⟩)
     ·rintro (h | h | ⟨j,hj,h1,h2⟩)
      ·exact .inl h
      ·exact .inr (.inl h)
      ·rcases Nat.lt_succ_iff_lt_or_eq.1 hj with h | h
       ·exact .inr (.inr ⟨j,h,h1,h2⟩)
       ·subst h; rw [hp] at h1; cases h1
theorem BZ (p:Nat->Bool) (w:Nat->Int) (a b:Int):∀ n,∃ t,N7 p w a b n=a::b::t
 | 0=>⟨[],rfl⟩
 | n+1=>by
   obtain ⟨t,e⟩:=BZ p w a b n
   unfold N7
   rw [e]
   cases p n with
   | true=>exact ⟨t++[w n],rfl⟩
   | false=>exact ⟨t,rfl⟩
theorem sC {L:List Int} {x:Int}:x ∈ L ↔ ∃ i,i < L.length/\x=ay (gz L i):=by
 have e:∀ i,ay (gz L i)=L.getD i 0:=fun i=>rfl
 simp only [e]
 constructor
 ·intro h
  obtain ⟨i,hi,rfl⟩:=List.getElem_of_mem h
  exact ⟨i,hi,by rw [List.getD_eq_getElem?_getD,List.getElem?_eq_getElem hi]; rfl⟩
 ·rintro ⟨i,hi,rfl⟩
  rw [List.getD_eq_getElem?_getD,List.getElem?_eq_getElem hi]
  exact List.getElem_mem hi
theorem tY {f:Nat->Int} {t:Int} {n:Nat} (hm:∀ a b,a < b->b < n->f a < f b):∀ d i j:Nat,j - i<=d->i<=j->j<=n->(∀ a,a < i->f a < t)->(∀ a,j<=a->a < n->t<=f a) ->
 (AZ f t d i j<=n/\∀ a,a < n->(f a < t ↔ a < AZ f t d i j))
 | 0,i,j,hd,hij,hj,h1,h2=>by
   have:i=j:=by omega
   subst this
   refine ⟨hj,fun a ha=>⟨fun h=>?_,fun h=>h1 a h⟩⟩
   have e:AZ f t 0 i i=i:=rfl
   rw [e]
   rcases Nat.lt_or_ge a i with q | q
   ·exact q
   ·have:=h2 a q ha; omega
 | d + 1,i,j,hd,hij,hj,h1,h2=>by
   unfold AZ
   cases hb:Nat.blt i j with
   | false =>
     have hn:¬ i < j:=fun h=>by rw [Nat.blt_eq.mpr h] at hb; cases hb
     have:i=j:=by omega
     subst this
     refine ⟨hj,fun a ha=>⟨fun h=>?_,fun h=>h1 a h⟩⟩
     show a < i
     rcases Nat.lt_or_ge a i with q | q
     ·exact q
     ·have:=h2 a q ha; omega
   | true =>
     have hlt:i < j:=Nat.blt_eq.mp hb
     show (bif decide (f ((i+j) / 2) < t) then AZ f t d ((i+j) / 2+1) j else AZ f t d i ((i+j) / 2))<=n/\∀ a,a < n->(f a < t ↔ a < (bif decide (f ((i+j) / 2) < t) then AZ f t d ((i+j) / 2+1) j else AZ f t d i ((i+j) / 2)))
     by_cases hc:f ((i+j) / 2) < t
     ·rw [dqt hc]
      refine tY hm d _ j (by omega) (by omega) hj (fun a ha=>?_) h2
      rcases Nat.lt_or_ge a ((i+j) / 2) with q | q
      ·have:=hm a _ q (by omega); omega
      ·have:a=(i+j) / 2:=by omega
       subst this; exact hc
     ·rw [jx hc]
      refine tY hm d i _ (by omega) (by omega) (by omega) h1 (fun a ha hn=>?_)
      rcases Nat.lt_or_ge ((i+j) / 2) a with q | q
      ·have:=hm _ a q hn; omega
      ·have:a=(i+j) / 2:=by omega
       subst this; omega
theorem Nt {p:Nat->Bool} {r:Nat}:∀ k,(∀ a,a < k->(p a=true ↔ a < r))->HF p k=min (r - 1) (k - 1)
 | 0,_=>by unfold HF; omega
 | k + 1,h=>by
   have ih:=Nt (p:=p) (r:=r) k (fun a ha=>h a (by omega))
   have hk:=h k (by omega)
   unfold HF
   cases hp:p k with
   | true=>have:=hk.1 hp; show k=_; omega
   | false =>
     have:¬ k < r:=fun q=>by rw [hk.2 q] at hp; cases hp
     show HF p k=_
     rw [ih]; omega
theorem Zk {n:Nat} {f:Nat->Int} (h:∀ i,i+1 < n->f i < f (i+1)):∀ a b,a < b->b < n->f a < f b
 | a,0,hab,_=>absurd hab (Nat.not_lt_zero a)
 | a,b+1,hab,hb=>by
   have h1:=h b hb
   rcases Nat.lt_succ_iff_lt_or_eq.1 hab with q | q
   ·have:=Zk h a b q (by omega); omega
   ·subst q; exact h1
section
variable {n:Nat} {f:Nat->List V} {H:Int} (u:nm n f) (hn:2<=n/\n<=12) (hH:1<=H/\H<=30000)
include u hn hH
theorem F9 (i:Nat) (hi:i < n):i64.wrap (ay (f i) * H)=ay (f i) * H/\-150000000<=ay (f i) * H/\ay (f i) * H<=150000000:=by
 have r:=u.r i hi
 have h1:ay (f i) * H<=5000 * H:=Int.mul_le_mul_of_nonneg_right r.2 (by omega)
 have h2:(-5000) * H<=ay (f i) * H:=Int.mul_le_mul_of_nonneg_right r.1 (by omega)
 exact ⟨wrapI (by omega) (by omega),by omega,by omega⟩
theorem aks (i:Nat) (hi:i+1 < n):i64.wrap (ay (f i) * H) < i64.wrap (ay (f (i+1)) * H):=by
 rw [(F9 u hn hH i (by omega)).1,(F9 u hn hH (i+1) hi).1]
 exact Int.mul_lt_mul_of_pos_right (u.u i hi) (by omega)
theorem NB {x:Int} (hx:-200000000<=x/\x<=200000000):aL n (aa ae (aa ae (cH f H))) x=aF n (aa ae f) x H:=by
 have hb:=tY (f:=fun k=>i64.wrap (ay (f k) * H)) (t:=x+1) (n:=n) (Zk (aks u hn hH)) n 0 n (by omega) (by omega) (Nat.le_refl _) (fun a ha=>absurd ha (Nat.not_lt_zero a)) (fun a h1 h2=>by omega)
 have e:bs57 n (aa ae (aa ae (aa ae (cH f H)))) (x+1)=AZ (fun k=>i64.wrap (ay (f k) * H)) (x+1) n 0 n:=rfl
 have c:=Nt (p:=fun i=>decide (i64.wrap (ay (f i) * H)<=x)) (r:=AZ (fun k=>i64.wrap (ay (f k) * H)) (x+1) n 0 n) (n - 1) (fun a ha=>by
  rw [← hb.2 a (by omega)]
  constructor
  ·intro h; have:=of_decide_eq_true h; omega
  ·intro h; exact dqt (by omega))
 unfold aL aF gW
 rw [wrapI (x:=x+1) (by omega) (by omega),e,show (fun i=>decide (i64.wrap (ay (aa ae f i) * H)<=x))=fun i=>decide (i64.wrap (ay (f i) * H)<=x) from rfl,c]
 have h1:=hb.1
 rw [wrapI (x:=(n:Int) - 2) (by omega) (by omega),wrapI (by omega) (by omega)]
 omega
theorem ZF (i:Nat) (hi:i+1 < n):i64.wrap (i64.wrap (ay (f (i+1)) * H) - i64.wrap (ay (f i) * H))=i64.wrap (i64.wrap (ay (f (i+1)) - ay (f i)) * H):=by
 have r0:=u.r i (by omega)
 have r1:=u.r (i+1) hi
 rw [(F9 u hn hH i (by omega)).1,(F9 u hn hH (i+1) hi).1,wrapI (x:=ay (f (i+1)) - ay (f i)) (by omega) (by omega),Int.sub_mul]
end
theorem BK (n:Nat) (f:Nat->List V) (m:Nat) (g:Nat->List V) (a b H:Int):bc n (aa ae (cH f H)) m (aa ae (cH g H)) a b=eB n f m g a b H:=by
 unfold bc eB ar
 show (bif (bif decide (i64.wrap (ay (f 0) * H)<=a) then decide (a<=i64.wrap (ay (f (i64.wrap ((n:Int) - 1)).toNat) * H)) else false) then (bif decide (i64.wrap (ay (g 0) * H)<=b) then decide (b<=i64.wrap (ay (g (i64.wrap ((m:Int) - 1)).toNat) * H)) else false) else false)=_
 generalize decide (i64.wrap (ay (f 0) * H)<=a)=p
 generalize decide (a<=i64.wrap (ay (f (i64.wrap ((n:Int) - 1)).toNat) * H))=q
 cases p <;> cases q <;> rfl
section
variable {x y a b v H:Int} (h:i64.wrap (i64.wrap (b * H) - i64.wrap (a * H))=i64.wrap (i64.wrap (b - a) * H))
include x y a b v H h
theorem agC:jM x y (i64.wrap (a * H)) (i64.wrap (b * H)) v=cX (c9 x y a b v H) (bV a b H):=by
 unfold jM c9 bV
 rw [h]; rfl
theorem aj8:jN x y (i64.wrap (a * H)) (i64.wrap (b * H)) v=dM (c9 x y a b v H) (bV a b H):=by
 unfold jN c9 bV
 rw [h]; rfl
end
section
variable {n:Nat} {f:Nat->List V} {m:Nat} {g:Nat->List V} {w:Nat->List V} {H:Int} (hu:nm n f) (hv:nm m g) (hn:2<=n/\n<=12) (hm:2<=m/\m<=12) (hH:1<=H/\H<=30000)
include hu hv hn hm hH
theorem agX {a b side:Int} (ha:-200000000<=a/\a<=200000000) (hb:-200000000<=b/\b<=200000000) :
 aY w n (aa ae (cH f H)) m (aa ae (cH g H)) a b=fF n f m g w a b H /\
 aZ w side n (aa ae (cH f H)) m (aa ae (cH g H)) a b=fD n f m g w side a b H:=by
 unfold aY aZ fF fD
 rw [NB hu hn hH ha,NB hv hm hH hb]
 have e:bc n (aa ae (aa ae (cH f H))) m (aa ae (aa ae (cH g H))) a b=eB n (aa ae f) m (aa ae g) a b H:=BK n f m g a b H
 rw [e]
 have p:=dW (aa ae f) a H (n:=n) (by omega)
 have q:=dW (aa ae g) b H (n:=m) (by omega)
 revert p q
 generalize aF n (aa ae f) a H=i
 generalize aF m (aa ae g) b H=k
 intro p q
 rw [show i64.wrap (i+0)=i from by rw [Int.add_zero]; exact wrapI (by omega) (by omega),show i64.wrap (i+i64.wrap (0+1))=i+1 from (show i64.wrap (i+1)=i+1 from wrapI (by omega) (by omega)),show i64.wrap (i+1)=i+1 from wrapI (by omega) (by omega),show i64.wrap (k+1)=k+1 from wrapI (by omega) (by omega)]
 have di:=ZF hu hn hH i.toNat (by omega)
 have dk:=ZF hv hm hH k.toNat (by omega)
 rw [show i.toNat+1=(i+1).toNat from by omega] at di
 rw [show k.toNat+1=(k+1).toNat from by omega] at dk
 cases eB n (aa ae f) m (aa ae g) a b H with
 | false=>simp only [Bool.not_false,cond_true,and_self]
 | true =>
   simp only [Bool.not_true,cond_false]
   refine ⟨?_,?_⟩
   ·refine (agC di).trans ?_
    have r:∀ j:Int,jL j (aa [Ty.sl ae] w) (aa ae (aa ae (cH g H))) k b=cX (c9 (ay (bj (hdV (w j.toNat)) k.toNat)) (ay (bj (hdV (w j.toNat)) (k+1).toNat)) (ay (g k.toNat)) (ay (g (k+1).toNat)) b H) (bV (ay (g k.toNat)) (ay (g (k+1).toNat)) H):=fun j=>by
     unfold jL
     rw [show i64.wrap (k+1)=k+1 from wrapI (by omega) (by omega)]
     exact agC dk
    rw [r i,r (i+1)]
   ·refine (aj8 di).trans ?_
    have r:∀ j:Int,jU j (aa [Ty.sl ae] w) (aa ae (aa ae (cH g H))) k b=dM (c9 (ay (bj (hdV (w j.toNat)) k.toNat)) (ay (bj (hdV (w j.toNat)) (k+1).toNat)) (ay (g k.toNat)) (ay (g (k+1).toNat)) b H) (bV (ay (g k.toNat)) (ay (g (k+1).toNat)) H):=fun j=>by
     unfold jU
     rw [show i64.wrap (k+1)=k+1 from wrapI (by omega) (by omega)]
     exact aj8 dk
    rw [r i,r (i+1)]
end
theorem yk {n:Nat} {f:Nat->List V} {x y H a:Int}:a ∈ aO n f x y H ↔ HM n (aa ae (cH f H)) (i64.wrap (1000 * x)) (i64.wrap (1000 * y)) a:=by
 unfold aO HM
 rw [Dr]
 have e:∀ j,ay (aa ae (cH f H) j)=i64.wrap (ay (f j) * H):=fun j=>rfl
 simp only [e]
 constructor
 ·rintro (h | h | ⟨j,hj,h1,h2⟩)
  ·exact .inl h
  ·exact .inr (.inl h)
  ·have h2:a=i64.wrap (ay (f j) * H):=h2
   by_cases ha:a=i64.wrap (1000 * x)
   ·exact .inl ha
   ·by_cases hb:a=i64.wrap (1000 * y)
    ·exact .inr (.inl hb)
    ·refine .inr (.inr ⟨j,hj,?_,h2⟩)
     have q:(bif decide (i64.wrap (1000 * x)<=i64.wrap (ay (f j) * H)) then decide (i64.wrap (ay (f j) * H)<=i64.wrap (1000 * y)) else false)=true:=h1
     cases c:decide (i64.wrap (1000 * x)<=i64.wrap (ay (f j) * H)) with
     | false=>rw [c] at q; cases q
     | true =>
       rw [c] at q
       have c:=of_decide_eq_true c
       have q:decide (i64.wrap (ay (f j) * H)<=i64.wrap (1000 * y))=true:=q
       have q:=of_decide_eq_true q
       unfold yI
       rw [dqt (show i64.wrap (1000 * x) < i64.wrap (ay (f j) * H) from by omega)]
       exact dqt (by omega)
 ·rintro (h | h | ⟨j,hj,h1,h2⟩)
  ·exact .inl h
  ·exact .inr (.inl h)
  ·refine .inr (.inr ⟨j,hj,?_,h2⟩)
   unfold yI at h1
   unfold A1
   cases c:decide (i64.wrap (1000 * x) < i64.wrap (ay (f j) * H)) with
   | false=>rw [c] at h1; cases h1
   | true =>
     rw [c] at h1
     have h1:decide (i64.wrap (ay (f j) * H) < i64.wrap (1000 * y))=true:=h1
     have h1:=of_decide_eq_true h1
     have c:=of_decide_eq_true c
     rw [dqt (show i64.wrap (1000 * x)<=i64.wrap (ay (f j) * H) from by omega)]
     exact dqt (by omega)
section
variable (n:Nat) (f:Nat->List V) (x y H:Int)
include n f x y H
theorem ai0:ay (gz (aO n f x y H) 0)=i64.wrap (1000 * x):=by
 unfold aO
 obtain ⟨t,e⟩:=BZ (A1 f (i64.wrap (1000 * x)) (i64.wrap (1000 * y)) H) (fun i=>i64.wrap (ay (f i) * H)) (i64.wrap (1000 * x)) (i64.wrap (1000 * y)) n
 rw [e]; rfl
theorem ajx:ay (gz (aO n f x y H) 1)=i64.wrap (1000 * y):=by
 unfold aO
 obtain ⟨t,e⟩:=BZ (A1 f (i64.wrap (1000 * x)) (i64.wrap (1000 * y)) H) (fun i=>i64.wrap (ay (f i) * H)) (i64.wrap (1000 * x)) (i64.wrap (1000 * y)) n
 rw [e]; rfl
theorem La:2<=(aO n f x y H).length:=(m6 ..).1
end
section
variable {n:Nat} {f:Nat->List V} {m:Nat} {g w:Nat->List V} {s:Int}
include n f m g w s
theorem qQ {x9 x10 x11 x12 H u v:Int} :
 uO n (aa ae (cH f H)) m (aa ae (cH g H)) (i64.wrap (1000 * x9)) (i64.wrap (1000 * x10)) (i64.wrap (1000 * x11)) (i64.wrap (1000 * x12)) u v ↔ rE n f m g w s x9 x10 x11 x12 H u v:=by
 have end_:∀ {n:Nat} {f:Nat->List V} {x y u:Int},u=i64.wrap (1000 * x) ∨ u=i64.wrap (1000 * y)->∃ i,i<=1/\u=ay (gz (aO n f x y H) i):=fun {n f x y u} h=>by
  rcases h with h | h
  ·exact ⟨0,by omega,h.trans (ai0 n f x y H).symm⟩
  ·exact ⟨1,by omega,h.trans (ajx n f x y H).symm⟩
 have l1:=La n f x9 x10 H
 have l2:=La m g x11 x12 H
 constructor
 ·rintro (⟨h1,h2⟩ | ⟨h1,h2,h3⟩)
  ·obtain ⟨i,hi,e1⟩:=end_ (n:=n) (f:=f) h1
   obtain ⟨k,hk,e2⟩:=end_ (n:=m) (f:=g) h2
   exact ⟨i,k,by omega,by omega,Gq _ _ _ _ _ _ _ _ _ _ _ hi hk,e1,e2⟩
  ·obtain ⟨i,hi,e1⟩:=sC.1 (yk.2 h1)
   obtain ⟨k,hk,e2⟩:=sC.1 (yk.2 h2)
   rw [BK] at h3
   subst e1; subst e2
   exact ⟨i,k,hi,hk,acg _ _ _ _ _ _ _ _ _ _ _ h3,rfl,rfl⟩
 ·rintro ⟨i,k,hi,hk,h,e1,e2⟩
  rcases Sm _ _ _ _ _ _ _ _ _ _ _ h with h | ⟨h1,h2⟩
  ·subst e1; subst e2
   exact .inr ⟨yk.1 (sC.2 ⟨i,hi,rfl⟩),yk.1 (sC.2 ⟨k,hk,rfl⟩),by rw [BK]; exact h⟩
  ·have low:∀ {n:Nat} {f:Nat->List V} {x y:Int} {i:Nat},i<=1->ay (gz (aO n f x y H) i)=i64.wrap (1000 * x) ∨ ay (gz (aO n f x y H) i)=i64.wrap (1000 * y):=fun {n f x y i} h=>by
    rcases Nat.lt_or_ge i 1 with q | q
    ·rw [show i=0 by omega]; exact .inl (ai0 ..)
    ·rw [show i=1 by omega]; exact .inr (ajx ..)
   subst e1; subst e2
   exact .inl ⟨low h1,low h2⟩
theorem ZW {a c d e H:Int} (hu:nm n f) (hv:nm m g) (hn:2<=n/\n<=12) (hm:2<=m/\m<=12) (hH:1<=H/\H<=30000)
 (h1:-200000<=a/\a<=200000) (h2:-200000<=c/\c<=200000) (h3:-200000<=d/\d<=200000) (h4:-200000<=e/\e<=200000) :
 (ge w s n (aa ae (cH f H)) m (aa ae (cH g H)) a c d e,gf w s n (aa ae (cH f H)) m (aa ae (cH g H)) a c d e)=(gh n f m g w s a c d e H,gn n f m g w s a c d e H):=by
 have rng:∀ {n:Nat} {f:Nat->List V} {x y u:Int},(-200000<=x/\x<=200000)->(-200000<=y/\y<=200000)->HM n f (i64.wrap (1000 * x)) (i64.wrap (1000 * y)) u->-200000000<=u/\u<=200000000:=fun {n f x y u} hx hy h=>by
  unfold HM at h
  rw [wrapI (x:=1000 * x) (by omega) (by omega),wrapI (x:=1000 * y) (by omega) (by omega)] at h
  rcases h with h | h | ⟨j,_,hb,e⟩
  ·omega
  ·omega
  ·unfold yI at hb
   cases c:decide (1000 * x < ay (f j)) with
   | false=>rw [c] at hb; cases hb
   | true =>
     rw [c] at hb
     have hb:decide (ay (f j) < 1000 * y)=true:=hb
     have:=of_decide_eq_true hb
     have:=of_decide_eq_true c
     omega
 have pt:∀ {p q},rE n f m g w s a c d e H p q->_:=fun {p q} z=>by
  have z:=qQ.2 z
  have hp:HM n (aa ae (cH f H)) (i64.wrap (1000 * a)) (i64.wrap (1000 * c)) p/\HM m (aa ae (cH g H)) (i64.wrap (1000 * d)) (i64.wrap (1000 * e)) q:=by
   rcases z with ⟨k1,k2⟩ | ⟨k1,k2,_⟩
   ·exact ⟨k1.elim .inl (fun z=>.inr (.inl z)),k2.elim .inl (fun z=>.inr (.inl z))⟩
   ·exact ⟨k1,k2⟩
  exact agX (w:=w) (side:=s) hu hv hn hm hH (rng h1 h2 hp.1) (rng h3 h4 hp.2)
 have A:=ab6 w s n (aa ae (cH f H)) m (aa ae (cH g H)) (i64.wrap (1000 * a)) (i64.wrap (1000 * c)) (i64.wrap (1000 * d)) (i64.wrap (1000 * e))
 have B:=Vj n f m g w s a c d e H
 refine ajP (S:=rE n f m g w s a c d e H) (g0:=fun p q=>fF n f m g w p q H) (g1:=fun p q=>fD n f m g w s p q H) ?_ (fun p q z=>?_) B.1 B.2
 ·obtain ⟨⟨p,q,z,e1⟩,⟨p',q',z',e2⟩⟩:=A
  exact ⟨⟨p,q,qQ.1 z,(pt (qQ.1 z)).1.symm.trans e1⟩,⟨p',q',qQ.1 z',(pt (qQ.1 z')).2.symm.trans e2⟩⟩
 ·have k:=acG w s n _ m _ (qQ.2 z)
  exact ⟨by have:=k.1; rw [(pt z).1] at this; exact this,by have:=k.2; rw [(pt z).2] at this; exact this⟩
end
theorem Vd {x:List V} {a c d e H:Int} (t:nr x) (u:nm (au (hdV (ab x))) (bj (hdV (ab x)))) (v:nm (au (hdV (ab (ab x)))) (bj (hdV (ab (ab x))))) (hH:1<=H/\H<=30000)
 (h1:-200000<=a/\a<=200000) (h2:-200000<=c/\c<=200000) (h3:-200000<=d/\d<=200000) (h4:-200000<=e/\e<=200000):Yq x a c d e H=Yj x a c d e H/\XC x a c d e H=ZD x a c d e H :=
 have k:=ZW (w:=va x) (s:=cv x) u v t.u t.v hH h1 h2 h3 h4
 ⟨congrArg Prod.fst k,congrArg Prod.snd k⟩
theorem EE (a b c d h:Int):fj a b c d h=d0 a b c d h:=by
 unfold fj d0
 rw [m8]
 rw [show (cq 4 fun i=>aA (ay (aa ae (bQ [vi a,vi b,vi c,vi d] 0 1) i)) (-200000) 200000)=((((true && cY a) && cY b) && cY c) && cY d) from rfl,show ar h 1 30000=aA h 1 30000 from rfl]
 generalize cY a=p
 generalize cY b=q
 generalize cY c=r
 generalize cY d=s
 cases p <;> cases q <;> cases r <;> cases s <;> rfl
theorem nn7 {b:Bool} {z:Int} (h:(bif !!b then z else 7)=0):b=true/\z=0:=by
 cases b with
 | true=>exact ⟨rfl,h⟩
 | false=>cases h
theorem amf {a b c d h:Int} (e:d0 a b c d h=0):(1<=h/\h<=30000)/\(-200000<=a/\a<=200000)/\(-200000<=b/\b<=200000)/\(-200000<=c/\c<=200000)/\(-200000<=d/\d<=200000):=by
 unfold d0 at e
 obtain ⟨h1,e⟩:=nn7 e
 obtain ⟨h2,e⟩:=nn7 e
 obtain ⟨h3,e⟩:=nn7 e
 obtain ⟨h4,e⟩:=nn7 e
 obtain ⟨h5,_⟩:=jp e (by decide)
 exact ⟨u7 h1,u7 h2,u7 h3,u7 h4,u7 (notf h5)⟩
theorem alM {n0:Nat} {f0:Nat->List V} {n2:Nat} {f2:Nat->List V} {x4:Int} (h:bX n0 f0 n2 f2 x4=0) :
 (bC n0 (aa al f0) n2 (aa am f2) != 0)=false/\(!ar x4 0 (i64.wrap ((n2:Int) - 1)))=false:=by
 unfold bX at h
 cases e:(bC n0 (aa al f0) n2 (aa am f2) != 0) with
 | true =>
   rw [e] at h
   have h:bC n0 (aa al f0) n2 (aa am f2)=0:=h
   rw [h] at e; cases e
 | false =>
   rw [e] at h
   cases hh:(!ar x4 0 (i64.wrap ((n2:Int) - 1))) with
   | true=>rw [hh] at h; cases h
   | false=>exact ⟨rfl,rfl⟩
theorem P2 (ts:List Ty) (f:Nat->List V):aa ts (aa ts f)=aa ts f:=funext fun i=>dI ts (f i)
section
variable (n0:Nat) (f0:ah) (n2:Nat) (f2:ah) (x4 x5 x6 x7 x8 x9 x10 x11 x12:Int)
theorem ab4:A3 n0 f0 n2 f2 x4 x5 x6 x7 x8 x9 x10 x11 x12=JX n0 f0 n2 f2 x4 x5 x6 x7 x8 x9 x10 x11 x12:=by
 unfold A3 JX
 rw [Rs,← S5,← EE]
 cases gx x5 x6 x7 <;> rfl
theorem TM (h:A3 n0 (aa al f0) n2 (aa am f2) x4 x5 x6 x7 x8 x9 x10 x11 x12=0) :
 twL n0 (aa al f0) n2 (aa am f2) x4 x5 x6 x7 x8 x9 x10 x11 x12=dwL n0 (aa al f0) n2 (aa am f2) x4 x5 x6 x7 x8 x9 x10 x11 x12 /\
 twH n0 (aa al f0) n2 (aa am f2) x4 x5 x6 x7 x8 x9 x10 x11 x12=dwH n0 (aa al f0) n2 (aa am f2) x4 x5 x6 x7 x8 x9 x10 x11 x12:=by
 have h1:bX n0 (aa al f0) n2 (aa am f2) x4=0/\fj x8 x9 x10 x11 x12=0:=by
  unfold A3 at h
  cases e:bX n0 (aa al f0) n2 (aa am f2) x4 == 0 with
  | true =>
    rw [e] at h
    refine ⟨eq_of_beq e,?_⟩
    cases k:gx x5 x6 x7 with
    | true=>rw [k] at h; cases h
    | false=>rw [k] at h; exact h
  | false =>
    rw [e] at h
    have h:bX n0 (aa al f0) n2 (aa am f2) x4=0:=h
    rw [h] at e; cases e
 obtain ⟨hl,hr⟩:=h1
 have hb:=aiX hl
 have l0:=alM hl
 rw [EE] at hr
 have r:=amf hr
 have w:=hb.2
 rw [P2] at w
 have t:=Bn w
 have u:=acA w
 have q:=Vd t u.1 u.2 r.1 r.2.1 r.2.2.1 r.2.2.2.1 r.2.2.2.2
 have a1:bq n0 (aa al f0) n2 (aa am f2) x4=ba (aa am f2 x4.toNat):=by unfold bq; rw [l0.1,l0.2]; rfl
 have a3:gS n0 (aa al f0) n2 (aa am f2) x4=cM (aa am f2 x4.toNat):=by unfold gS; rw [l0.1,l0.2]; rfl
 have a7:jV n0 (aa al f0) n2 (aa am f2) x4=be (ab (ab (aa am f2 x4.toNat))):=by unfold jV; rw [l0.1,l0.2]; rfl
 have a8:jK n0 (aa al f0) n2 (aa am f2) x4=be (ab (ab (ab (aa am f2 x4.toNat)))):=by unfold jK; rw [l0.1,l0.2]; rfl
 have a9:j8 n0 (aa al f0) n2 (aa am f2) x4=be (ab (ab (ab (ab (aa am f2 x4.toNat))))):=by unfold j8; rw [l0.1,l0.2]; rfl
 have a10:ij n0 (aa al f0) n2 (aa am f2) x4=be (ab (ab (ab (ab (ab (aa am f2 x4.toNat)))))):=by unfold ij; rw [l0.1,l0.2]; rfl
 unfold twL twH dwL dwH
 rw [q.1,q.2,a1,a3,a7,a8,a9,a10,Pv,Il]
 exact ⟨rfl,rfl⟩
theorem QD:eO n0 (aa al f0) n2 (aa am f2) x4 x5 x6 x7 x8 x9 x10 x11 x12=fZ n0 (aa al f0) n2 (aa am f2) x4 x5 x6 x7 x8 x9 x10 x11 x12 /\
 eM n0 (aa al f0) n2 (aa am f2) x4 x5 x6 x7 x8 x9 x10 x11 x12=gp n0 (aa al f0) n2 (aa am f2) x4 x5 x6 x7 x8 x9 x10 x11 x12 /\
 fe n0 (aa al f0) n2 (aa am f2) x4 x5 x6 x7 x8 x9 x10 x11 x12=iT n0 (aa al f0) n2 (aa am f2) x4 x5 x6 x7 x8 x9 x10 x11 x12:=by
 have e:=ab4 n0 (aa al f0) n2 (aa am f2) x4 x5 x6 x7 x8 x9 x10 x11 x12
 unfold eO eM fe fZ gp iT
 cases h:A3 n0 (aa al f0) n2 (aa am f2) x4 x5 x6 x7 x8 x9 x10 x11 x12 == 0 with
 | true =>
   have q:=TM n0 f0 n2 f2 x4 x5 x6 x7 x8 x9 x10 x11 x12 (eq_of_beq h)
   rw [← e,h,q.1,q.2]
   exact ⟨rfl,rfl,rfl⟩
 | false =>
   rw [← e,h]
   exact ⟨rfl,rfl,rfl⟩
end
end
end Go.Dx
