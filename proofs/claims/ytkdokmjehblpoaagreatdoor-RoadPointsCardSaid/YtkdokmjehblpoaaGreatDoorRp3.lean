/- Part 3 of a proof. No conditions. -/
import Derived.Test.YtkdokmjehblpoaaGreatDoorRp2
import Derived.KernelRfl
import Derived.OpenShut
import Derived.ChangeArms
import Derived.Below
import Derived.ChangeSame
import Derived.Carry
import Derived.Laws.StructEq
import Derived.ChangeKeysEq
import Derived.Test.YtkdokmjehblpoaaGreatDoorChecked
import Derived.IntWalk
set_option maxRecDepth 100000
set_option linter.unusedVariables false
set_option linter.unusedSimpArgs false
namespace Go.Dx
open Go.Sx
section
variable {w0 : World}
mutual
theorem vr_any (lh : List LObj) : ∀ (d : V) (x : AVal), vr w0 [] Nu.nil d x -> vr w0 lh Nu.nil d x
 | .int .., x, h => by simp only [vr] at h ⊢; exact h
 | .bool _, x, h => by simp only [vr] at h ⊢; exact h
 | .kb _, x, h => by simp only [vr] at h ⊢; exact h
 | .str _, x, h => by simp only [vr] at h ⊢; exact h
 | .agg cs, x, h => by simp only [vr] at h ⊢; obtain ⟨az, h1, h2⟩ := h; exact ⟨az, h1, vrs_any lh cs az h2⟩
 | .tup cs, x, h => by simp only [vr] at h ⊢; obtain ⟨az, h1, h2⟩ := h; exact ⟨az, h1, vrs_any lh cs az h2⟩
 | .fn f xs ys, x, h => by simp only [vr] at h ⊢; obtain ⟨us, vs, h1, h2, h3⟩ := h; exact ⟨us, vs, h1, vrs_any lh xs us h2, vrs_any lh ys vs h3⟩
 | .sl n f, x, h => by
   simp only [vr] at h ⊢
   obtain ⟨p, c, esz, h1, h2, h3, h4, h5⟩ := h
   exact ⟨p, c, esz, h1, h2, h3, okP_any h4 lh, fun i hi => let ⟨q, az, g1, g2, g3, g4⟩ := h5 i hi; ⟨q, az, g1, lds_any g2 lh, vrs_any lh (f i) az g3, g4⟩⟩
 | .sq n m f, x, h => by
   simp only [vr] at h ⊢
   obtain ⟨p, c, esz, h1, h2, h3, h4, h5⟩ := h
   exact ⟨p, c, esz, h1, h2, h3, okP_any h4 lh, fun i hi => let ⟨q, az, g1, g2, g3, g4⟩ := h5 i hi; ⟨q, az, g1, lds_any g2 lh, vrs_any lh (f i) az g3, g4⟩⟩
 | .pd cs, x, h => by simp only [vr] at h ⊢; obtain ⟨p, az, h1, h2, h3, h4, h5⟩ := h; exact ⟨p, az, h1, okP_any h2 lh, lds_any h3 lh, vrs_any lh cs az h4, h5⟩
 | .pl k off, x, h => by simp only [vr] at h; obtain ⟨b, c, e, h1, h2⟩ := h; cases h1
 | .pe k i j, x, h => by simp only [vr] at h; obtain ⟨b, c, e, h1, h2⟩ := h; cases h1
 | .ss k off n c, x, h => by simp only [vr] at h; obtain ⟨b, c, e, h1, h2⟩ := h; cases h1
 | .gs k n, x, h => by simp only [vr] at h; rcases h with ⟨h1, _⟩ | ⟨b, c, e, h1, _⟩ <;> cases h1
 | .ns, x, h => by simp only [vr] at h ⊢; exact h
 | .np, x, h => by simp only [vr] at h ⊢; exact h
 | .any, x, h => by simp only [vr]
 | .gd b v, x, h => by simp only [vr] at h ⊢; exact ⟨fun e => vr_any lh v x (h.1 e), h.2⟩
 | .yl _, x, h => by simp only [vr] at h ⊢; exact h
 | .go k off n, x, h => by simp only [vr] at h; rcases h with ⟨h1, _⟩ | ⟨b, c, e, o, h1, _⟩ <;> cases h1
theorem vrs_any (lh : List LObj) : ∀ (ds : List V) (xs : List AVal), vrs w0 [] Nu.nil ds xs -> vrs w0 lh Nu.nil ds xs
 | [], xs, h => by simp only [vrs] at h ⊢; exact h
 | d :: ds, xs, h => by simp only [vrs] at h ⊢; obtain ⟨x, xs', h1, h2, h3⟩ := h; exact ⟨x, xs', h1, vr_any lh d x h2, vrs_any lh ds xs' h3⟩
end
end
section
variable {B : Base} {m : Names} {lh : List LObj} {w : World}
mutual
theorem vrc_base (h : HRel B m lh w) : ∀ (d : V) (x : AVal) (u : Value), d.fc = true -> vr B.w0 lh Nu.nil d x -> vrel m x u -> vr w [] Nu.nil d (ofVal u)
 | .int .., x, u, _, hd, hv => by simp only [vr] at hd; subst hd; simp only [vrel] at hv; subst hv; simp only [ofVal, vr]
 | .bool _, x, u, _, hd, hv => by simp only [vr] at hd; subst hd; simp only [vrel] at hv; subst hv; simp only [ofVal, vr]
 | .kb _, x, u, _, hd, hv => by simp only [vr] at hd; subst hd; simp only [vrel] at hv; subst hv; simp only [ofVal, vr]
 | .str _, x, u, _, hd, hv => by simp only [vr] at hd; subst hd; simp only [vrel] at hv; subst hv; simp only [ofVal, vr]
 | .agg _, _, _, hc, _, _ => by cases hc
 | .tup _, _, _, hc, _, _ => by cases hc
 | .fn .., _, _, hc, _, _ => by cases hc
 | .gd .., _, _, hc, _, _ => by cases hc
 | .yl _, _, _, hc, _, _ => by cases hc
 | .sl n f, x, u, _, hd, hv => by
   simp only [vr] at hd ⊢
   obtain ⟨p, c, esz, rfl, h2, h3, h4, h5⟩ := hd
   simp only [vrel] at hv
   obtain ⟨q, rfl, hq⟩ := hv
   refine ⟨q.map .g, c, esz, by cases q <;> rfl, h2, h3, by cases q <;> trivial, fun i hi => ?_⟩
   obtain ⟨p', az, rfl, g2, g3, g4⟩ := h5 i hi
   obtain ⟨a, us, hqa, k1, k2⟩ := lds_base (q := q.map fun a => a.add (i * esz)) h (by
    cases p' with
    | g a => simp only [prel] at hq; subst hq; simp [prel, Ptr.add]
    | l k off => simp only [prel] at hq; obtain ⟨b, e1, rfl⟩ := hq; simp only [prel, Ptr.add]; exact ⟨b, e1, by simp [Addr.add]⟩) g2
   cases q with
   | none => cases hqa
   | some a0 =>
     simp at hqa
     subst hqa
     exact ⟨.g a0, _, rfl, k1, vrcs_base h (f i) az us g4 g3 k2, g4⟩
 | .sq n m f, x, u, _, hd, hv => by
   simp only [vr] at hd ⊢
   obtain ⟨p, c, esz, rfl, h2, h3, h4, h5⟩ := hd
   simp only [vrel] at hv
   obtain ⟨q, rfl, hq⟩ := hv
   refine ⟨q.map .g, c, esz, by cases q <;> rfl, h2, h3, by cases q <;> trivial, fun i hi => ?_⟩
   obtain ⟨p', az, rfl, g2, g3, g4⟩ := h5 i hi
   obtain ⟨a, us, hqa, k1, k2⟩ := lds_base (q := q.map fun a => a.add (i * esz)) h (by
    cases p' with
    | g a => simp only [prel] at hq; subst hq; simp [prel, Ptr.add]
    | l k off => simp only [prel] at hq; obtain ⟨b, e1, rfl⟩ := hq; simp only [prel, Ptr.add]; exact ⟨b, e1, by simp [Addr.add]⟩) g2
   cases q with
   | none => cases hqa
   | some a0 =>
     simp at hqa
     subst hqa
     exact ⟨.g a0, _, rfl, k1, vrcs_base h (f i) az us g4 g3 k2, g4⟩
 | .pd cs, x, u, _, hd, hv => by
   simp only [vr] at hd ⊢
   obtain ⟨p, az, rfl, _, h3, h4, h5⟩ := hd
   simp only [vrel] at hv
   obtain ⟨q, rfl, hq⟩ := hv
   obtain ⟨a, us, rfl, k1, k2⟩ := lds_base h hq h3
   exact ⟨.g a, _, rfl, trivial, k1, vrcs_base h cs az us h5 h4 k2, h5⟩
 | .pl k off, x, u, _, hd, hv => by simp only [vr] at hd; obtain ⟨b, c, e, h1, h2⟩ := hd; cases h1
 | .pe k i j, x, u, _, hd, hv => by simp only [vr] at hd; obtain ⟨b, c, e, h1, h2⟩ := hd; cases h1
 | .ss k off n c, x, u, _, hd, hv => by simp only [vr] at hd; obtain ⟨b, c, e, h1, h2⟩ := hd; cases h1
 | .gs k n, x, u, _, hd, hv => by simp only [vr] at hd; rcases hd with ⟨h1, _⟩ | ⟨b, c, e, h1, _⟩ <;> cases h1
 | .go k off n, x, u, _, hd, hv => by simp only [vr] at hd; rcases hd with ⟨h1, _⟩ | ⟨b, c, e, o, h1, _⟩ <;> cases h1
 | .ns, x, u, _, hd, hv => by simp only [vr] at hd; subst hd; simp only [vrel, prel] at hv; obtain ⟨q, rfl, rfl⟩ := hv; simp only [ofVal, vr]
 | .np, x, u, _, hd, hv => by simp only [vr] at hd; subst hd; simp only [vrel, prel] at hv; obtain ⟨q, rfl, rfl⟩ := hv; simp only [ofVal, vr]
 | .any, x, u, _, hd, hv => by simp only [vr]
theorem vrcs_base (h : HRel B m lh w) : ∀ (ds : List V) (xs : List AVal) (us : List Value), ds.all V.fc = true -> vrs B.w0 lh Nu.nil ds xs -> vrels m xs us -> vrs w [] Nu.nil ds (us.map ofVal)
 | [], xs, us, _, hd, hv => by simp only [vrs] at hd; subst hd; simp only [vrels] at hv; subst hv; simp only [vrs, List.map_nil]
 | d :: ds, xs, us, hc, hd, hv => by
   simp only [List.all_cons, Bool.and_eq_true] at hc
   simp only [vrs] at hd
   obtain ⟨x, xs', rfl, h2, h3⟩ := hd
   simp only [vrels] at hv
   obtain ⟨u, us', rfl, h4, h5⟩ := hv
   simp only [List.map_cons, vrs]
   exact ⟨_, _, rfl, vrc_base h d x u hc.1 h2 h4, vrcs_base h ds xs' us' hc.2 h3 h5⟩
end
mutual
theorem vr_base (h : HRel B m lh w) : ∀ (d : V) (x : AVal) (u : Value), vr B.w0 lh Nu.nil d x -> vrel m x u -> ∃ x', vrel (fun _ => none) x' u /\ vr w [] Nu.nil d x'
 | .agg cs, x, u, hd, hv => by
   simp only [vr] at hd
   obtain ⟨az, rfl, h1⟩ := hd
   simp only [vrel] at hv
   obtain ⟨us, rfl, h2⟩ := hv
   obtain ⟨xs', g1, g2⟩ := vrs_base h cs az us.toList h1 h2
   exact ⟨.agg xs', by simp only [vrel]; exact ⟨us, rfl, g1⟩, by simp only [vr]; exact ⟨_, rfl, g2⟩⟩
 | .tup cs, x, u, hd, hv => by
   simp only [vr] at hd
   obtain ⟨az, rfl, h1⟩ := hd
   simp only [vrel] at hv
   obtain ⟨us, rfl, h2⟩ := hv
   obtain ⟨xs', g1, g2⟩ := vrs_base h cs az us.toList h1 h2
   exact ⟨.tup xs', by simp only [vrel]; exact ⟨us, rfl, g1⟩, by simp only [vr]; exact ⟨_, rfl, g2⟩⟩
 | .fn f xs ys, x, u, hd, hv => by
   simp only [vr] at hd
   obtain ⟨us, vs, rfl, h1, h2⟩ := hd
   simp only [vrel] at hv
   obtain ⟨us', vs', rfl, h3, h4⟩ := hv
   obtain ⟨az, g1, g2⟩ := vrs_base h xs us us'.toList h1 h3
   obtain ⟨bs, g3, g4⟩ := vrs_base h ys vs vs'.toList h2 h4
   exact ⟨.fn (.func f) az bs, by simp only [vrel]; exact ⟨us', vs', rfl, g1, g3⟩, by simp only [vr]; exact ⟨az, bs, rfl, g2, g4⟩⟩
 | .gd b v, x, u, hd, hv => by
   simp only [vr] at hd
   cases b with
   | true => obtain ⟨x', g1, g2⟩ := vr_base h v x u (hd.1 rfl) hv; exact ⟨x', g1, by simp only [vr]; exact ⟨fun _ => g2, fun e => by cases e⟩⟩
   | false =>
     obtain ⟨l, rfl⟩ := hd.2 rfl
     simp only [vrel] at hv
     obtain ⟨vs, rfl, _⟩ := hv
     exact ⟨.tup (vs.toList.map ofVal), by simp only [vrel]; exact ⟨vs, rfl, vrels_map_ofVal _ _⟩, by simp only [vr]; exact ⟨(fun e => by cases e), fun _ => ⟨_, rfl⟩⟩⟩
 | .int k n, x, u, hd, hv => ⟨ofVal u, vrel_ofVal _ u, vrc_base h (.int k n) x u rfl hd hv⟩
 | .bool b, x, u, hd, hv => ⟨ofVal u, vrel_ofVal _ u, vrc_base h (.bool b) x u rfl hd hv⟩
 | .kb b, x, u, hd, hv => ⟨ofVal u, vrel_ofVal _ u, vrc_base h (.kb b) x u rfl hd hv⟩
 | .str b, x, u, hd, hv => ⟨ofVal u, vrel_ofVal _ u, vrc_base h (.str b) x u rfl hd hv⟩
 | .sl n f, x, u, hd, hv => ⟨ofVal u, vrel_ofVal _ u, vrc_base h (.sl n f) x u rfl hd hv⟩
 | .sq n m f, x, u, hd, hv => ⟨ofVal u, vrel_ofVal _ u, vrc_base h (.sq n m f) x u rfl hd hv⟩
 | .pd b, x, u, hd, hv => ⟨ofVal u, vrel_ofVal _ u, vrc_base h (.pd b) x u rfl hd hv⟩
 | .pl k off, x, u, hd, hv => ⟨ofVal u, vrel_ofVal _ u, vrc_base h (.pl k off) x u rfl hd hv⟩
 | .pe k i j, x, u, hd, hv => ⟨ofVal u, vrel_ofVal _ u, vrc_base h (.pe k i j) x u rfl hd hv⟩
 | .ss k off n c, x, u, hd, hv => ⟨ofVal u, vrel_ofVal _ u, vrc_base h (.ss k off n c) x u rfl hd hv⟩
 | .gs k n, x, u, hd, hv => ⟨ofVal u, vrel_ofVal _ u, vrc_base h (.gs k n) x u rfl hd hv⟩
 | .ns, x, u, hd, hv => ⟨ofVal u, vrel_ofVal _ u, vrc_base h .ns x u rfl hd hv⟩
 | .np, x, u, hd, hv => ⟨ofVal u, vrel_ofVal _ u, vrc_base h .np x u rfl hd hv⟩
 | .any, x, u, hd, hv => ⟨ofVal u, vrel_ofVal _ u, vrc_base h .any x u rfl hd hv⟩
 | .go k off n, x, u, hd, hv => ⟨ofVal u, vrel_ofVal _ u, vrc_base h (.go k off n) x u rfl hd hv⟩
 | .yl l, x, u, hd, hv => ⟨yieldV l, by simp only [vr] at hd; subst hd; simp only [yieldV, vrel] at hv ⊢; exact hv, by simp only [vr]⟩
theorem vrs_base (h : HRel B m lh w) : ∀ (ds : List V) (xs : List AVal) (us : List Value), vrs B.w0 lh Nu.nil ds xs -> vrels m xs us -> ∃ xs', vrels (fun _ => none) xs' us /\ vrs w [] Nu.nil ds xs'
 | [], xs, us, hd, hv => by
   simp only [vrs] at hd; subst hd
   simp only [vrels] at hv; subst hv
   exact ⟨[], by simp only [vrels], by simp only [vrs]⟩
 | d :: ds, xs, us, hd, hv => by
   simp only [vrs] at hd
   obtain ⟨x, xs', rfl, h2, h3⟩ := hd
   simp only [vrels] at hv
   obtain ⟨u, us', rfl, h4, h5⟩ := hv
   obtain ⟨a, g1, g2⟩ := vr_base h d x u h2 h4
   obtain ⟨az, g3, g4⟩ := vrs_base h ds xs' us' h3 h5
   exact ⟨a :: az, by simp only [vrels]; exact ⟨_, _, rfl, g1, g3⟩, by simp only [vrs]; exact ⟨_, _, rfl, g2, g4⟩⟩
end
end
section
variable {w0 : World} {ν : Nu} {nV nS : Nat} {h : List O} {lh : List LObj}
theorem cellV_fc (v : V) : (cellV v).fc = true := by
 unfold cellV
 cases hv : v.fc with
 | true => simpa using hv
 | false => rfl
theorem cellV_ok {v : V} {a : AVal} (hv : vr w0 lh Nu.nil v a) : vr w0 lh Nu.nil (cellV v) a := by
 unfold cellV
 cases v.fc with
 | true => exact hv
 | false => simp only [cond, vr]
theorem all_cellV (g : V -> V) (l : List V) : (l.map fun v => cellV (g v)).all V.fc = true := by
 rw [List.all_eq_true]; intro x hx
 rw [List.mem_map] at hx
 obtain ⟨v, _, rfl⟩ := hx
 exact cellV_fc _
theorem vrs_map {lh' : List LObj} {ν' : Nu} {g : V -> V} (hg : ∀ v a, vr w0 lh ν v a -> vr w0 lh' ν' (g v) a) : ∀ {vs : List V} {az : List AVal}, vrs w0 lh ν vs az -> vrs w0 lh' ν' (vs.map g) az
 | [], az, hv => by simp only [vrs] at hv ⊢; subst hv; simp only [List.map_nil, vrs]
 | v :: vs, az, hv => by simp only [vrs] at hv; obtain ⟨x, xs, rfl, h1, h2⟩ := hv; simp only [List.map_cons, vrs]; exact ⟨_, _, rfl, hg v x h1, vrs_map hg h2⟩
theorem deepV_ok (hh : HR w0 ν nV nS h lh) : ∀ (fu : Nat) (v : V) (a : AVal), vr w0 [] ν v a -> vr w0 lh Nu.nil (deepV h fu v) a
 | 0, v, a, _ => by simp only [deepV, vr]
 | fu + 1, v, a, hv => by
   have ih : ∀ {vs : List V} {az : List AVal}, vrs w0 [] ν vs az -> vrs w0 lh Nu.nil (vs.map (deepV h fu)) az := fun hvs => vrs_map (fun v a => deepV_ok hh fu v a) hvs
   have ihc : ∀ {vs : List V} {az : List AVal}, vrs w0 [] ν vs az -> vrs w0 lh Nu.nil (vs.map fun v => cellV (deepV h fu v)) az := fun hvs => vrs_map (fun v a hv => cellV_ok (deepV_ok hh fu v a hv)) hvs
   unfold deepV
   split
   ·simp only [vr] at hv ⊢; exact hv
   ·simp only [vr] at hv ⊢; exact hv
   ·simp only [vr] at hv ⊢; exact hv
   ·simp only [vr] at hv ⊢; exact hv
   ·rename_i n f
    exact vr_any lh _ _ (by simp only [vr] at hv ⊢; exact hv)
   ·rename_i n m f
    exact vr_any lh _ _ (by simp only [vr] at hv ⊢; exact hv)
   ·rename_i cs
    exact vr_any lh _ _ (by simp only [vr] at hv ⊢; exact hv)
   ·simp only [vr] at hv ⊢; subst hv; exact ⟨none, 0, 0, rfl, Nat.le_refl _, by omega, trivial, fun i hi => by omega⟩
   ·simp only [vr] at hv ⊢; obtain ⟨az, h1, h2⟩ := hv; exact ⟨az, h1, ih h2⟩
   ·simp only [vr] at hv ⊢; obtain ⟨us, vs, h1, h2, h3⟩ := hv; exact ⟨us, vs, h1, ih h2, ih h3⟩
   ·rename_i k off
    rw [nth_eq]
    split
    ·rename_i cs ty hk
     rw [lenL_eq]
     cases hb : Nat.ble off cs.length with
     | false => simp only [cond, vr]
     | true =>
       have hle := Nat.le_of_ble_eq_true hb
       simp only [cond]
       obtain ⟨b, c0, e0, az, h1, h2, h3⟩ := hh.blk k _ hk
       simp only [vr] at hv ⊢
       obtain ⟨b', c', e', g1, rfl⟩ := hv
       rw [h1] at g1
       obtain ⟨rfl, rfl, rfl⟩ : b = b' /\ c0 = c' /\ e0 = e' := by simpa using g1
       have hl := vrs_length h3
       refine ⟨.l b off, az.drop off, rfl, by simp [okP, h2, isCells], ?_, ihc (vrs_drop _ h3), all_cellV _ _⟩
       simp only [lds, h2, List.length_map, List.length_drop]
       rw [if_pos (by omega), List.take_of_length_le (by simp; omega)]
    ·simp only [vr]
   ·rename_i k n
    rw [nth_eq]
    split
    ·rename_i e n' f ty hk
     cases hb : Nat.ble n n' with
     | false => simp only [cond, vr]
     | true =>
       have hle := Nat.le_of_ble_eq_true hb
       simp only [cond]
       have hb := hh.blk k _ hk
       simp only [vr] at hv ⊢
       rcases hb with ⟨h1, h2⟩ | ⟨b, c, az, h1, h2, h3, h4, h5⟩
       ·rcases hv with ⟨_, g2, rfl⟩ | ⟨b, c, e, g1, _⟩
        ·subst g2; exact ⟨none, 0, 0, rfl, Nat.le_refl _, by omega, trivial, fun i hi => by omega⟩
        ·rw [h1] at g1; cases g1
       ·rcases hv with ⟨g1, _⟩ | ⟨b', c', e', g1, rfl, g3⟩
        ·rw [h1] at g1; cases g1
        ·rw [h1] at g1
         obtain ⟨rfl, rfl, rfl⟩ : b = b' /\ c = c' /\ e = e' := by simpa using g1
         refine ⟨some (.l b 0), c, e, rfl, g3, by omega, by simp [okP, h2, isCells], fun i hi => ?_⟩
         have hi' : i * e + e <= az.length := by
          rw [h3, ← Nat.succ_mul]; exact Nat.mul_le_mul_right e (by omega)
         refine ⟨_, _, rfl, ?_, ihc (h5 i (by omega)).2, all_cellV _ _⟩
         simp only [Ptr.add, lds, h2, Nat.zero_add]
         rw [if_pos (by omega)]
    ·simp only [vr]
   ·rename_i k off n c
    rw [nth_eq]
    split
    ·rename_i cs ty hk
     rw [lenL_eq]
     cases hb : (Nat.ble n 9223372036854775807 && (Nat.ble n c && Nat.ble (off + n * ((cs.length - off) / c)) cs.length)) with
     | false => simp only [cond, vr]
     | true =>
       simp only [Bool.and_eq_true] at hb
       have b1 := Nat.le_of_ble_eq_true hb.1
       have b2 := Nat.le_of_ble_eq_true hb.2.1
       have b3 := Nat.le_of_ble_eq_true hb.2.2
       simp only [cond]
       obtain ⟨b, c0, e0, az, h1, h2, h3⟩ := hh.blk k _ hk
       simp only [vr] at hv ⊢
       obtain ⟨b', c', e', g1, rfl⟩ := hv
       rw [h1] at g1
       obtain ⟨rfl, rfl, rfl⟩ : b = b' /\ c0 = c' /\ e0 = e' := by simpa using g1
       have hl := vrs_length h3
       refine ⟨some (.l b off), c, (cs.length - off) / c, rfl, ⟨b2, b2⟩, b1, by simp [okP, h2, isCells], fun i hi => ?_⟩
       have hi' : off + i * ((cs.length - off) / c) + (cs.length - off) / c <= cs.length := by
        have : (i + 1) * ((cs.length - off) / c) <= n * ((cs.length - off) / c) := Nat.mul_le_mul_right _ (by omega)
        rw [Nat.succ_mul] at this
        omega
       refine ⟨_, _, rfl, ?_, vrs_take _ (vrs_drop _ (ihc h3)), all_cut _ _ (all_cellV _ _)⟩
       simp only [Ptr.add, lds, h2]
       rw [if_pos (by omega)]
    ·simp only [vr]
   ·simp only [vr]
theorem deeps_ok (hh : HR w0 ν nV nS h lh) (fu : Nat) {vs : List V} {az : List AVal} (hv : vrs w0 [] ν vs az) : vrs w0 lh Nu.nil (vs.map (deepV h fu)) az := vrs_map (fun v a => deepV_ok hh fu v a) hv
end
end Go.Dx
namespace Go.Sx
section
variable {P : Program} {S : FuncId -> FSpec} {w0 : World}
theorem vcOps_mono (hS : ∀ f, (S f).Ok P f) : ∀ (ops : List SOp) (sl : List AVal) (lh : List LObj) {K K' : List AVal -> List LObj -> Prop}, (∀ s l, K s l -> K' s l) -> vcOps w0 S ops sl lh K -> vcOps w0 S ops sl lh K'
 | [], _, _, _, _, hk, h => hk _ _ h
 | o :: rest, sl, lh, K, K', hk, h => by
   have ih := fun sl lh => vcOps_mono hS rest sl lh hk
   simp only [vcOps] at h ⊢
   split at h
   ·exact vcI_mono hS (fun _ _ => ih _ _) h
   ·split at h
    ·exact ⟨fun e => vcI_mono hS (fun _ _ => ih _ _) (h.1 e), fun e => ih _ _ (h.2 e)⟩
    ·exact ih _ _ h
    ·exact ih _ _ h
    ·exact h.elim
theorem vcOps_strict (hS : ∀ f, (S f).Ok P f) {Q : Prop} : ∀ (ops : List SOp) (sl : List AVal) (lh : List LObj), vcOps w0 S ops sl lh (fun _ _ => Q) -> Q
 | [], _, _, h => h
 | o :: rest, sl, lh, h => by
   have ih := fun sl lh => vcOps_strict hS (Q := Q) rest sl lh
   simp only [vcOps] at h
   split at h
   ·exact vcI_strict hS (vcI_mono hS (fun _ _ => ih _ _) h)
   ·rename_i d want _
    split at h
    ·rename_i b _
     by_cases e : b = want
     ·exact vcI_strict hS (vcI_mono hS (fun _ _ => ih _ _) (h.1 e))
     ·exact ih _ _ (h.2 (by cases b <;> cases want <;> simp_all))
    ·exact ih _ _ h
    ·exact ih _ _ h
    ·exact h.elim
theorem vcText_mono (hS : ∀ f, (S f).Ok P f) {Ws : List (List Nat)} {n0 : Nat} {K K' : List AVal -> List LObj -> Prop} (hk : ∀ s l, K s l -> K' s l) : ∀ (ds : List DOp) (i : Nat) (sl : List AVal) (lh : List LObj), vcText w0 S Ws n0 K ds i sl lh -> vcText w0 S Ws n0 K' ds i sl lh
 | [], _, _, _, h => hk _ _ h
 | d :: rest, i, sl, lh, h => vcM_mono hS (fun s l => vcText_mono hS hk rest (i + 1) s l) h
theorem vcText_strict (hS : ∀ f, (S f).Ok P f) {Ws : List (List Nat)} {n0 : Nat} {Q : Prop} : ∀ (ds : List DOp) (i : Nat) (sl : List AVal) (lh : List LObj), vcText w0 S Ws n0 (fun _ _ => Q) ds i sl lh -> Q
 | [], _, _, _, h => h
 | d :: rest, i, sl, lh, h => core_strict hS (core_mono hS (fun _ => vcText_strict hS rest (i + 1) _ _) h)
theorem vcDraw_mono (hS : ∀ f, (S f).Ok P f) {ds : List DOp} {sl : List AVal} {lh : List LObj} {K K' : List AVal -> List LObj -> Prop} (hk : ∀ s l, K s l -> K' s l) (h : vcDraw w0 S ds sl lh K) : vcDraw w0 S ds sl lh K' := ⟨h.1, vcText_mono hS hk ds 0 _ _ h.2⟩
theorem vcDraw_strict (hS : ∀ f, (S f).Ok P f) {ds : List DOp} {sl : List AVal} {lh : List LObj} {Q : Prop} (h : vcDraw w0 S ds sl lh (fun _ _ => Q)) : Q := vcText_strict hS ds 0 _ _ h.2
section it
variable {l : Nat} {Y : YH}
theorem vcItems_mono (hS : ∀ f, (S f).Ok P f) (hY : ∀ xs lh K K', (∀ x l, K x l -> K' x l) -> Y xs lh K -> Y xs lh K') : ∀ (ops : List IItem) (sl : List AVal) (lh : List LObj) (g : Option Ex) {K K' : List AVal -> List LObj -> Option Ex -> Prop}, (∀ s l g, K s l g -> K' s l g) -> vcItems w0 S l Y ops sl lh g K -> vcItems w0 S l Y ops sl lh g K'
 | [], _, _, _, _, _, hk, h => hk _ _ _ h
 | .op o :: rest, sl, lh, g, _, _, hk, h => by
   simp only [vcItems] at h ⊢
   exact vcOps_mono hS _ _ _ (fun _ _ => vcItems_mono hS hY rest _ _ g hk) h
 | .yld t d xs :: rest, sl, lh, g, _, _, hk, h => by
   simp only [vcItems] at h ⊢
   refine ⟨h.1, h.2.1, hY _ _ _ _ (fun x l hx => ?_) h.2.2⟩
   cases x <;> exact vcItems_mono hS hY rest _ _ _ hk hx
theorem vcItems_strict (hS : ∀ f, (S f).Ok P f) (hY : ∀ xs lh K K', (∀ x l, K x l -> K' x l) -> Y xs lh K -> Y xs lh K') (hY' : ∀ xs lh (Q : Prop), Y xs lh (fun _ _ => Q) -> Q) {Q : Prop} : ∀ (ops : List IItem) (sl : List AVal) (lh : List LObj) (g : Option Ex), vcItems w0 S l Y ops sl lh g (fun _ _ _ => Q) -> Q
 | [], _, _, _, h => h
 | .op o :: rest, sl, lh, g, h => by
   simp only [vcItems] at h
   exact vcOps_strict hS _ _ _ (vcOps_mono hS _ _ _ (fun _ _ => vcItems_strict hS hY hY' rest _ _ g) h)
 | .yld t d xs :: rest, sl, lh, g, h => by
   simp only [vcItems] at h
   refine hY' _ _ _ (hY _ _ _ _ (fun x l hx => ?_) h.2.2)
   cases x <;> exact vcItems_strict hS hY hY' rest _ _ _ hx
theorem vcIt_mono (hS : ∀ f, (S f).Ok P f) (hY : ∀ xs lh K K', (∀ x l, K x l -> K' x l) -> Y xs lh K -> Y xs lh K') : ∀ (c : ICode) (sl : List AVal) (lh : List LObj) (g : Option Ex) {Q Q' : IQ}, (∀ x s l g, Q x s l g -> Q' x s l g) -> vcIt w0 S l Y c sl lh g Q -> vcIt w0 S l Y c sl lh g Q' := by
 intro c
 induction c with
 | reg ops => intro sl lh g Q Q' hq h; exact vcItems_mono hS hY ops sl lh g (fun _ _ _ => hq _ _ _ _) h
 | draw ds => intro sl lh g Q Q' hq h; exact vcDraw_mono hS (fun _ _ => hq _ _ _ _) h
 | seq a b iha ihb =>
   intro sl lh g Q Q' hq h
   refine iha sl lh g (fun x s l g hx => ?_) h
   cases x with
   | normal => exact ihb _ _ _ hq hx
   | exit i => exact hq _ _ _ _ hx
   | ret => exact hq _ _ _ _ hx
 | cond c a b iha ihb =>
   intro sl lh g Q Q' hq h
   simp only [vcIt] at h ⊢
   split at h
   ·exact ⟨fun e => iha _ _ _ hq (h.1 e), fun e => ihb _ _ _ hq (h.2 e)⟩
   ·exact h.elim
 | block id b ih =>
   intro sl lh g Q Q' hq h
   refine ih sl lh g (fun x s l g hx => ?_) h
   cases x with
   | normal => exact hq _ _ _ _ hx
   | ret => exact hq _ _ _ _ hx
   | exit i => simp only [blockI] at hx ⊢; split at hx <;> rename_i e <;> simp only [e, if_true, if_false] <;> exact hq _ _ _ _ hx
 | loop b ih =>
   intro sl lh g Q Q' hq h
   simp only [vcIt] at h ⊢
   obtain ⟨ι, shs, shl, shg, μ, i0, h1, h2, h3, hr⟩ := h
   refine ⟨ι, shs, shl, shg, μ, i0, h1, h2, h3, fun i => ih _ _ _ (fun x s l g hx => ?_) (hr i)⟩
   cases x with
   | normal => exact hx
   | exit i => exact hq _ _ _ _ hx
   | ret => exact hq _ _ _ _ hx
 | scope b ih => intro sl lh g Q Q' hq h; exact ih sl lh g hq h
 | skip => intro sl lh g Q Q' hq h; exact hq _ _ _ _ h
 | exit i => intro sl lh g Q Q' hq h; exact hq _ _ _ _ h
 | ret => intro sl lh g Q Q' hq h; exact hq _ _ _ _ h
theorem vcIt_strict (hS : ∀ f, (S f).Ok P f) (hY : ∀ xs lh K K', (∀ x l, K x l -> K' x l) -> Y xs lh K -> Y xs lh K') (hY' : ∀ xs lh (Q : Prop), Y xs lh (fun _ _ => Q) -> Q) {R : Prop} : ∀ (c : ICode) (sl : List AVal) (lh : List LObj) (g : Option Ex) {Q : IQ}, (∀ x s l g, Q x s l g -> R) -> vcIt w0 S l Y c sl lh g Q -> R := by
 intro c
 induction c with
 | reg ops => intro sl lh g Q hq h; exact vcItems_strict hS hY hY' ops sl lh g (vcItems_mono hS hY ops sl lh g (fun _ _ _ => hq _ _ _ _) h)
 | draw ds => intro sl lh g Q hq h; exact vcDraw_strict hS (vcDraw_mono hS (K' := fun _ _ => R) (fun _ _ => hq _ _ _ _) h)
 | seq a b iha ihb =>
   intro sl lh g Q hq h
   refine iha sl lh g (fun x s l g hx => ?_) h
   cases x with
   | normal => exact ihb _ _ _ hq hx
   | exit i => exact hq _ _ _ _ hx
   | ret => exact hq _ _ _ _ hx
 | cond c a b iha ihb =>
   intro sl lh g Q hq h
   simp only [vcIt] at h
   split at h
   ·rename_i t _
    cases t with
    | true => exact iha _ _ _ hq (h.1 rfl)
    | false => exact ihb _ _ _ hq (h.2 rfl)
   ·exact h.elim
 | block id b ih =>
   intro sl lh g Q hq h
   refine ih sl lh g (fun x s l g hx => ?_) h
   cases x with
   | normal => exact hq _ _ _ _ hx
   | ret => exact hq _ _ _ _ hx
   | exit i => simp only [blockI] at hx; split at hx <;> exact hq _ _ _ _ hx
 | loop b ih =>
   intro sl lh g Q hq h
   simp only [vcIt] at h
   obtain ⟨ι, shs, shl, shg, μ, i0, h1, h2, h3, hr⟩ := h
   have key : ∀ k i, μ i = k -> R := fun k => by
    induction k using Nat.strongRecOn with
    | _ k ihk =>
      intro i hi
      refine ih _ _ _ (fun x s l g hx => ?_) (hr i)
      cases x with
      | normal => obtain ⟨i', _, _, _, hlt⟩ := hx; exact ihk _ (by rw [← hi]; exact hlt) i' rfl
      | exit i => exact hq _ _ _ _ hx
      | ret => exact hq _ _ _ _ hx
   exact key _ i0 rfl
 | scope b ih => intro sl lh g Q hq h; exact ih sl lh g hq h
 | skip => intro sl lh g Q hq h; exact hq _ _ _ _ h
 | exit i => intro sl lh g Q hq h; exact hq _ _ _ _ h
 | ret => intro sl lh g Q hq h; exact hq _ _ _ _ h
end it
theorem vcOT_mono (hS : ∀ f, (S f).Ok P f) : ∀ (t : OT) (sl : List AVal) (lh : List LObj) {K K' : List AVal -> List LObj -> Prop}, (∀ s l, K s l -> K' s l) -> vcOT w0 S t sl lh K -> vcOT w0 S t sl lh K'
 | .done, sl, lh, K, K', hk, h => hk _ _ h
 | .op o r, sl, lh, K, K', hk, h => vcOps_mono hS [o] sl lh (fun s l h => vcOT_mono hS r s l hk h) h
 | .alt a b, sl, lh, K, K', hk, h => ⟨vcOT_mono hS a sl lh hk h.1, vcOT_mono hS b sl lh hk h.2⟩
theorem vcOT_strict (hS : ∀ f, (S f).Ok P f) : ∀ (t : OT) (sl : List AVal) (lh : List LObj) {R : Prop}, vcOT w0 S t sl lh (fun _ _ => R) -> R
 | .done, sl, lh, R, h => h
 | .op o r, sl, lh, R, h => vcOps_strict hS [o] sl lh (vcOps_mono hS [o] sl lh (K' := fun _ _ => R) (fun s l h => vcOT_strict hS r s l h) h)
 | .alt a b, sl, lh, R, h => vcOT_strict hS a sl lh h.1
theorem vcCode_ms (hS : ∀ f, (S f).Ok P f) : ∀ (c : SCode), (∀ (nb : Nat) (sl : List AVal) (lh : List LObj) {Q Q' : Ex -> List AVal -> List LObj -> Prop}, (∀ x s l, Q x s l -> Q' x s l) -> vcCode w0 S nb c sl lh Q -> vcCode w0 S nb c sl lh Q') /\
 ∀ (nb : Nat) (sl : List AVal) (lh : List LObj) {Q : Ex -> List AVal -> List LObj -> Prop} {R : Prop}, (∀ x s l, Q x s l -> R) -> vcCode w0 S nb c sl lh Q -> R := by
 intro c
 induction c with
 | reg ops => exact ⟨fun nb sl lh Q Q' hq h => vcOps_mono hS ops sl lh (fun _ _ => hq _ _ _) h, fun nb sl lh Q R hq h => vcOps_strict hS ops sl lh (vcOps_mono hS ops sl lh (fun _ _ => hq _ _ _) h)⟩
 | allo t => exact ⟨fun nb sl lh Q Q' hq h => vcOT_mono hS t sl lh (fun _ _ => hq _ _ _) h, fun nb sl lh Q R hq h => vcOT_strict hS t sl lh (vcOT_mono hS t sl lh (K' := fun _ _ => R) (fun _ _ => hq _ _ _) h)⟩
 | draw ds => exact ⟨fun nb sl lh Q Q' hq h => vcDraw_mono hS (fun _ _ => hq _ _ _) h, fun nb sl lh Q R hq h => vcDraw_strict hS (vcDraw_mono hS (K' := fun _ _ => R) (fun _ _ => hq _ _ _) h)⟩
 | seq a b iha ihb =>
   refine ⟨fun nb sl lh Q Q' hq h => iha.1 nb sl lh (fun x s l hx => ?_) h, fun nb sl lh Q R hq h => iha.2 nb sl lh (fun x s l hx => ?_) h⟩
   ·cases x with
    | normal => exact ihb.1 nb _ _ hq hx
    | exit i => exact hq _ _ _ hx
    | ret => exact hq _ _ _ hx
   ·cases x with
    | normal => exact ihb.2 nb _ _ hq hx
    | exit i => exact hq _ _ _ hx
    | ret => exact hq _ _ _ hx
 | cond c a b iha ihb =>
   refine ⟨fun nb sl lh Q Q' hq h => ?_, fun nb sl lh Q R hq h => ?_⟩
   ·simp only [vcCode] at h ⊢
    split at h
    ·exact ⟨fun e => iha.1 nb _ _ hq (h.1 e), fun e => ihb.1 nb _ _ hq (h.2 e)⟩
    ·exact h.elim
   ·simp only [vcCode] at h
    split at h
    ·rename_i t _
     cases t with
     | true => exact iha.2 nb _ _ hq (h.1 rfl)
     | false => exact ihb.2 nb _ _ hq (h.2 rfl)
    ·exact h.elim
 | block id b ih =>
   refine ⟨fun nb sl lh Q Q' hq h => ih.1 nb sl lh (fun x s l hx => ?_) h, fun nb sl lh Q R hq h => ih.2 nb sl lh (fun x s l hx => ?_) h⟩
   ·cases x with
    | normal => exact hq _ _ _ hx
    | ret => exact hq _ _ _ hx
    | exit i => simp only [blockQ] at hx ⊢; split at hx <;> rename_i e <;> simp only [e, if_true, if_false] <;> exact hq _ _ _ hx
   ·cases x with
    | normal => exact hq _ _ _ hx
    | ret => exact hq _ _ _ hx
    | exit i => simp only [blockQ] at hx; split at hx <;> exact hq _ _ _ hx
 | loop b ih =>
   refine ⟨fun nb sl lh Q Q' hq h => ?_, fun nb sl lh Q R hq h => ?_⟩
   ·simp only [vcCode] at h ⊢
    obtain ⟨ι, shs, shl, μ, i0, h1, hr⟩ := h
    refine ⟨ι, shs, shl, μ, i0, h1, fun i => ih.1 nb _ _ (fun x s l hx => ?_) (hr i)⟩
    cases x with
    | normal => exact hx
    | exit i => exact hq _ _ _ hx
    | ret => exact hq _ _ _ hx
   ·simp only [vcCode] at h
    obtain ⟨ι, shs, shl, μ, i0, h1, hr⟩ := h
    have key : ∀ k i, μ i = k -> R := fun k => by
     induction k using Nat.strongRecOn with
     | _ k ihk =>
       intro i hi
       refine ih.2 nb _ _ (fun x s l hx => ?_) (hr i)
       cases x with
       | normal => obtain ⟨i', _, hlt⟩ := hx; exact ihk _ (by rw [← hi]; exact hlt) i' rfl
       | exit i => exact hq _ _ _ hx
       | ret => exact hq _ _ _ hx
    exact key _ i0 rfl
 | scope b ih => exact ⟨fun nb sl lh Q Q' hq h => ih.1 nb sl lh hq h, fun nb sl lh Q R hq h => ih.2 nb sl lh hq h⟩
 | skip => exact ⟨fun nb sl lh Q Q' hq h => hq _ _ _ h, fun nb sl lh Q R hq h => hq _ _ _ h⟩
 | exit i => exact ⟨fun nb sl lh Q Q' hq h => hq _ _ _ h, fun nb sl lh Q R hq h => hq _ _ _ h⟩
 | ret => exact ⟨fun nb sl lh Q Q' hq h => hq _ _ _ h, fun nb sl lh Q R hq h => hq _ _ _ h⟩
 | range g ps asg body its iha ihb =>
   have hY : ∀ (sl xs : List AVal) (lh : List LObj) (K K' : Ex -> List LObj -> Prop), (∀ x l, K x l -> K' x l) -> (xs.length = ps.length /\ vcCode w0 S lh.length asg (setPs sl ps xs) lh (thenQ (fun sl lh' => vcCode w0 S lh.length body sl lh' fun x _ lh => K x lh) fun _ _ _ => False)) -> (xs.length = ps.length /\ vcCode w0 S lh.length asg (setPs sl ps xs) lh (thenQ (fun sl lh' => vcCode w0 S lh.length body sl lh' fun x _ lh => K' x lh) fun _ _ _ => False)) := fun sl xs lh K K' hk h => by
    refine ⟨h.1, iha.1 _ _ _ (fun x s l hx => ?_) h.2⟩
    cases x with
    | normal => exact ihb.1 _ _ _ (fun _ _ _ => hk _ _) hx
    | exit i => exact hx
    | ret => exact hx
   have hY' : ∀ (sl xs : List AVal) (lh : List LObj) (Q : Prop), (xs.length = ps.length /\ vcCode w0 S lh.length asg (setPs sl ps xs) lh (thenQ (fun sl lh' => vcCode w0 S lh.length body sl lh' fun _ _ _ => Q) fun _ _ _ => False)) -> Q := fun sl xs lh Q h => by
    refine iha.2 _ _ _ (fun x s l hx => ?_) h.2
    cases x with
    | normal => exact ihb.2 _ _ _ (fun _ _ _ h => h) hx
    | exit i => exact hx.elim
    | ret => exact hx.elim
   refine ⟨fun nb sl lh Q Q' hq h => ?_, fun nb sl lh Q R hq h => ?_⟩
   ·simp only [vcCode] at h ⊢
    split at h
    ·split at h
     ·exact fun l => vcIt_mono hS (fun xs lh K K' => hY sl xs lh K K') _ _ _ _ (fun x s l g hx => by cases x <;> cases g <;> first | exact hx | exact hq _ _ _ hx) (h l)
     ·exact h.elim
    ·exact h.elim
   ·simp only [vcCode] at h
    split at h
    ·split at h
     ·exact vcIt_strict hS (fun xs lh K K' => hY sl xs lh K K') (fun xs lh Q => hY' sl xs lh Q) _ _ _ _ (fun x s l g hx => by cases x <;> cases g <;> first | exact hx.elim | exact hq _ _ _ hx) (h 0)
     ·exact h.elim
    ·exact h.elim
theorem vcRes_mono : ∀ (rs : List RVar) (sl : List AVal) (lh : List LObj) {K K' : List AVal -> Prop}, (∀ vs, K vs -> K' vs) -> vcRes w0 sl lh rs K -> vcRes w0 sl lh rs K'
 | [], _, _, _, _, hk, h => hk _ h
 | .tmp t :: l, sl, lh, _, _, hk, h => vcRes_mono l sl lh (fun _ => hk _) h
 | .cell t n :: l, sl, lh, _, _, hk, h => by
   simp only [vcRes] at h ⊢
   split at h
   ·split at h
    ·obtain ⟨v, h1, h2⟩ := h; exact ⟨v, h1, vcRes_mono l sl lh (fun _ => hk _) h2⟩
    ·obtain ⟨v, h1, h2⟩ := h; exact ⟨v, h1, vcRes_mono l sl lh (fun _ => hk _) h2⟩
   ·exact h.elim
theorem vcRes_strict {R : Prop} : ∀ (rs : List RVar) (sl : List AVal) (lh : List LObj), vcRes w0 sl lh rs (fun _ => R) -> R
 | [], _, _, h => h
 | .tmp t :: l, sl, lh, h => vcRes_strict l sl lh h
 | .cell t n :: l, sl, lh, h => by
   simp only [vcRes] at h
   split at h
   ·split at h
    ·obtain ⟨v, h1, h2⟩ := h; exact vcRes_strict l sl lh h2
    ·obtain ⟨v, h1, h2⟩ := h; exact vcRes_strict l sl lh h2
   ·exact h.elim
def vInl (S : FuncId -> FSpec) (sf : SFun) : FSpec := fun w0 args lh K => vcFun w0 S sf args lh K
theorem vInl_ok {eqs : List TypeId} {its : List IFun} {f : FuncId} {fn : Func} {sf : SFun} (hS : ∀ g, (S g).Ok P g) (hE : ∀ t ∈ eqs, EqInts P t) (hI : itsOk P eqs its) (hf : P.funcs[f]? = some fn) (hn : (fn.name == "runtime.NumGoroutine") = false) (hc : compFun P eqs its fn = some sf) : (vInl S sf).Ok P f := by
 have mono : ∀ w0 args lh K K', (∀ r l, K r l -> K' r l) -> vInl S sf w0 args lh K -> vInl S sf w0 args lh K' := fun w0 args lh K K' hk h =>
  (vcCode_ms hS sf.body).1 _ _ _ (fun x s l hx => by cases x <;> first | exact hx | exact vcRes_mono _ _ _ (fun _ => hk _ _) hx) h
 refine ⟨fun_sound hS hE hI hf hn hc fun w0 args lh K _ _ h => ?_, mono, fun w0 args lh Q h => (vcCode_ms hS sf.body).2 _ _ _ (fun x s l hx => by cases x <;> first | exact hx.elim | exact vcRes_strict _ _ _ hx) h⟩
 exact mono w0 args lh K _ (fun r l hk => ⟨r, l, .inl ⟨rfl, by unfold slsub; exact ⟨.inr rfl, by simp [slsub]⟩⟩, hk⟩) h
end
end Go.Sx
namespace Go.Dx
open Go.Sx
mutual
def toA : V -> AVal
 | .int k n => .int k n
 | .bool b => .bool b
 | .kb b => .bool b
 | .str s => .str s
 | .agg cs => .agg (toAs cs)
 | .tup cs => .tup (toAs cs)
 | .sl n f => .fn (.func 0) [] ((List.range n).map fun i => .agg (toAs (f i)))
 | _ => .any
def toAs : List V -> List AVal
 | [] => []
 | v :: vs => toA v :: toAs vs
end
section
variable {w0 : World} {lh : List LObj} {ν : Nu}
theorem toA_scalar : ∀ {v : V}, scalar (toA v) = true -> ∀ a, vr w0 lh ν v a ↔ a = toA v
 | .int .., _, a => by simp only [vr, toA]
 | .bool _, _, a => by simp only [vr, toA]
 | .kb _, _, a => by simp only [vr, toA]
 | .str _, _, a => by simp only [vr, toA]
 | .agg _, h, _ => by simp [toA, scalar] at h
 | .tup _, h, _ => by simp [toA, scalar] at h
 | .fn .., h, _ => by simp [toA, scalar] at h
 | .sl .., h, _ => by simp [toA, scalar] at h
 | .pd .., h, _ => by simp [toA, scalar] at h
 | .pl .., h, _ => by simp [toA, scalar] at h
 | .pe .., h, _ => by simp [toA, scalar] at h
 | .ss .., h, _ => by simp [toA, scalar] at h
 | .gs .., h, _ => by simp [toA, scalar] at h
 | .ns, h, _ => by simp [toA, scalar] at h
 | .np, h, _ => by simp [toA, scalar] at h
 | .any, h, _ => by simp [toA, scalar] at h
 | .gd .., h, _ => by simp [toA, scalar] at h
 | .yl _, h, _ => by simp [toA, scalar] at h
 | .go .., h, _ => by simp [toA, scalar] at h
 | .sq .., h, _ => by simp [toA, scalar] at h
theorem toAs_scalar : ∀ {vs : List V}, (toAs vs).all scalar = true -> ∀ az, vrs w0 lh ν vs az ↔ az = toAs vs
 | [], _, az => by simp only [vrs, toAs]
 | v :: vs, h, az => by
   simp only [toAs, List.all_cons, Bool.and_eq_true] at h
   simp only [vrs, toAs]
   constructor
   ·rintro ⟨x, xs, rfl, h1, h2⟩; rw [(toA_scalar h.1 x).1 h1, (toAs_scalar h.2 xs).1 h2]
   ·rintro rfl; exact ⟨_, _, rfl, (toA_scalar h.1 _).2 rfl, (toAs_scalar h.2 _).2 rfl⟩
theorem toA_plain1 {v : V} (h : (match toA v with | .agg ds => ds.all scalar | a => scalar a) = true) (a : AVal) : vr w0 lh ν v a ↔ a = toA v := by
 cases v with
 | agg cs =>
   simp only [toA] at h
   simp only [vr, toA]
   constructor
   ·rintro ⟨az, rfl, h1⟩; rw [(toAs_scalar h az).1 h1]
   ·rintro rfl; exact ⟨_, rfl, (toAs_scalar h _).2 rfl⟩
 | _ => first | exact toA_scalar (by simpa [toA] using h) a | (simp [toA, scalar] at h)
theorem toAs_plain : ∀ {vs : List V}, ((toAs vs).all fun | .agg ds => ds.all scalar | a => scalar a) = true -> ∀ az, vrs w0 lh ν vs az ↔ az = toAs vs
 | [], _, az => by simp only [vrs, toAs]
 | v :: vs, h, az => by
   simp only [toAs, List.all_cons, Bool.and_eq_true] at h
   simp only [vrs, toAs]
   constructor
   ·rintro ⟨x, xs, rfl, h1, h2⟩; rw [(toA_plain1 h.1 x).1 h1, (toAs_plain h.2 xs).1 h2]
   ·rintro rfl; exact ⟨_, _, rfl, (toA_plain1 h.1 _).2 rfl, (toAs_plain h.2 _).2 rfl⟩
theorem toA_plain {v : V} (h : plain (toA v) = true) (a : AVal) : vr w0 lh ν v a ↔ a = toA v := by
 cases v with
 | tup cs =>
   simp only [toA, plain] at h
   simp only [vr, toA]
   constructor
   ·rintro ⟨az, rfl, h1⟩; rw [(toAs_plain h az).1 h1]
   ·rintro rfl; exact ⟨_, rfl, (toAs_plain h _).2 rfl⟩
 | agg cs => exact toA_plain1 (by simpa [toA, plain] using h) a
 | _ => first | exact toA_scalar (by simpa [toA, plain] using h) a | (simp [toA, plain, scalar] at h)
end
def lstOf : V -> Option (Nat × (Nat -> List V))
 | .sl n f => some (n, f)
 | .tup (.sl n f :: _) => some (n, f)
 | _ => none
def restOf : V -> List V
 | .tup (_ :: vs) => vs
 | _ => []
def withL (v : V) : V -> V
 | .tup (_ :: vs) => .tup (v :: vs)
 | _ => v
def withA (a : AVal) : V -> AVal
 | .tup (_ :: vs) => .tup (a :: toAs vs)
 | _ => a
theorem lstOf_cases {r : V} {n : Nat} {f : Nat -> List V} (h : lstOf r = some (n, f)) : r = .sl n f ∨ ∃ vs, r = .tup (.sl n f :: vs) := by
 unfold lstOf at h
 split at h
 ·cases h; exact .inl rfl
 ·cases h; exact .inr ⟨_, rfl⟩
 ·cases h
def okL (e : Nat) (r : V) : Prop := ∃ n f, lstOf r = some (n, f) /\ n <= 9223372036854775807 /\ (∀ i, i < n -> okE e (f i) = true /\ (toAs (f i)).all scalar = true) /\ (toAs (restOf r)).all scalar = true
def lstR (e : Nat) (ty : TypeId) (nb : Nat) (lh : List LObj) (n : Nat) (f : FnV) (x : AVal) : Prop :=
 (n = 0 /\ x = .slice none 0 0) ∨ ∃ b c az, nb <= b /\ lh[b]? = some (.cells az ty) /\ x = .slice (some (.l b 0)) n c /\ az.length = c * e /\ n <= c /\ ∀ i, i < n -> (az.drop (i * e)).take e = toAs (f i)
abbrev PCon := List V -> Option ((List V × List V) × Prop × V)
inductive Ent where
 | con (C : PCon)
 | conL (e : Nat) (ty : TypeId) (C : PCon) (h : ∀ ds d p r, C ds = some (d, p, r) -> d.1 = d.2 -> p -> okL e r)
 | inl (sf : SFun) (un : Unr)
abbrev CTab := List (FuncId × Ent)
def lookF : CTab -> FuncId -> Option Ent
 | [], _ => none
 | (k, c) :: l, f => cond (Nat.beq f k) (some c) (lookF l f)
def vP (C : PCon) : FSpec := fun w0 args lh K => ∃ ds d p r, vrs w0 lh Nu.nil ds args /\ C ds = some (d, p, r) /\ (d.1 = d.2 /\ p) /\ plain (toA r) = true /\ K (toA r) lh
def vL (e : Nat) (ty : TypeId) (C : PCon) : FSpec := fun w0 args lh K => ∃ ds d p r n f, vrs w0 lh Nu.nil ds args /\ C ds = some (d, p, r) /\ (d.1 = d.2 /\ p) /\ lstOf r = some (n, f) /\ okL e r /\ ∀ x new, lstR e ty lh.length (lh ++ new) n f x -> K (withA x r) (lh ++ new)
def SV (ct : CTab) : Specs
 | 0, f => match lookF ct f with
   | some (.con C) => vP C
   | some (.conL e ty C _) => vL e ty C
   | _ => badS
 | n + 1, f => match lookF ct f with
   | some (.con C) => vP C
   | some (.conL e ty C _) => vL e ty C
   | some (.inl sf _) => vInl (SV ct n) sf
   | none => badS
section
variable {α : Type}
def conOf (C : PCon) (vs : List V) (h : List O) (K : V -> T α) : T α := match C (vs.map (deepV h 12)) with
 | none => .fail 81
 | some (d, p, r) => .obq d.1 d.2 (.obp p (.ob (plain (toA r)) (K r)))
def conOfL (e : Nat) (ty : TypeId) (C : PCon) (vs : List V) (h : List O) (K : V -> List O -> T α) : T α := match C (vs.map (deepV h 12)) with
 | none => .fail 81
 | some (d, p, r) => match lstOf r with
   | none => .fail 85
   | some (n, f) => .obq d.1 d.2 (.obp p (K (withL (.gs (lenL h) n) r) (snocL h (.gl e n f ty))))
def cpOf (ct : CTab) : CP α := fun f vs h K => match lookF ct f with
 | some (.con C) => conOf C vs h K
 | _ => .fail 80
def cfOf (ct : CTab) : Nat -> CF α
 | 0, f, vs, h, K => match lookF ct f with
   | some (.con C) => conOf C vs h fun v => K v h
   | some (.conL e ty C _) => conOfL e ty C vs h K
   | _ => .fail 82
 | n + 1, f, vs, h, K => match lookF ct f with
   | some (.con C) => conOf C vs h fun v => K v h
   | some (.conL e ty C _) => conOfL e ty C vs h K
   | some (.inl sf un) => evFun (cfOf ct n) (cpOf ct) un n sf vs h K
   | none => .fail 83
theorem conOf_ok {w0 : World} {LP : LPred} {C : PCon} {vs : List V} {h : List O} {K : V -> T α} {Q : α -> Prop} {ν : Nu} {nV nS : Nat} {args : List AVal} {lh : List LObj} {KA : AVal -> List LObj -> Prop} (hv : vrs w0 [] ν vs args) (hh : HR w0 ν nV nS h lh) (hs : sat LP (conOf C vs h K) Q)
 (hK : ∀ v a, vr w0 [] ν v a -> sat LP (K v) Q -> KA a lh) : vP C w0 args lh KA := by
 unfold conOf at hs
 split at hs
 ·exact hs.elim
 ·rename_i d p r hr
  simp only [sat] at hs
  exact ⟨_, d, p, r, deeps_ok hh 12 hv, hr, ⟨hs.1, hs.2.1⟩, hs.2.2.1, hK r (toA r) ((toA_plain hs.2.2.1 _).2 rfl) hs.2.2.2⟩
theorem conOfL_ok {w0 : World} {LP : LPred} {e : Nat} {ty : TypeId} {C : PCon} (hC : ∀ ds d p r, C ds = some (d, p, r) -> d.1 = d.2 -> p -> okL e r) {vs : List V} {h : List O} {K : V -> List O -> T α} {Q : α -> Prop} {ν : Nu} {nV nS : Nat} {args : List AVal} {lh : List LObj} {KA : AVal -> List LObj -> Prop} (hv : vrs w0 [] ν vs args) (hh : HR w0 ν nV nS h lh) (hs : sat LP (conOfL e ty C vs h K) Q)
 (hK : ∀ v h' ν' a lh', ν.sub ν' -> HR w0 ν' nV nS h' lh' -> vr w0 [] ν' v a -> sat LP (K v h') Q -> KA a lh') : vL e ty C w0 args lh KA := by
 unfold conOfL at hs
 split at hs
 ·exact hs.elim
 ·rename_i d p r hr
  split at hs
  ·exact hs.elim
  ·rename_i n f hl
   simp only [sat] at hs
   have ho := hC _ _ _ _ hr hs.1 hs.2.1
   refine ⟨_, d, p, r, n, f, deeps_ok hh 12 hv, hr, ⟨hs.1, hs.2.1⟩, hl, ho, fun x new hx => ?_⟩
   obtain ⟨n', f', hl', hn, hel, hrs⟩ := ho
   rw [hl] at hl'; cases hl'
   have hp := hh.dom h.length (Nat.le_refl _)
   have key : ∃ y : Option (Nat × Nat × Nat), vr w0 [] (upd ν h.length y) (.gs h.length n) x /\ brel w0 (upd ν h.length y) nV nS (lh ++ new) h.length (.gl e n f ty) /\ ∀ z, y = some z -> lh.length <= z.1 /\ z.1 < (lh ++ new).length := by
    rcases hx with ⟨rfl, rfl⟩ | ⟨b, c, az, hb, hbl, rfl, hal, hnc, hall⟩
    ·exact ⟨none, by simp only [vr]; exact .inl ⟨upd_at _ _ _, by simp⟩, .inl ⟨upd_at _ _ _, rfl⟩, fun z hz => by cases hz⟩
    ·refine ⟨some (b, c, e), by simp only [vr]; exact .inr ⟨b, c, e, upd_at _ _ _, rfl, hnc⟩, .inr ⟨b, c, az, upd_at _ _ _, hbl, hal, ⟨hnc, hn⟩, fun i hi => ⟨(hel i hi).1, ?_⟩⟩, fun z hz => ?_⟩
     ·rw [hall i hi]; exact (toAs_scalar (hel i hi).2 _).2 rfl
     ·cases hz; exact ⟨hb, (List.getElem?_eq_some_iff.1 hbl).1⟩
   obtain ⟨y, k1, k2, k3⟩ := key
   have hsub := upd_sub (x := y) hp
   refine hK _ _ (upd ν h.length y) _ _ hsub ?_ ?_ hs.2.2
   ·rw [snocL_eq]
    have hcell : ∀ k o, (h ++ [O.gl e n f ty])[k]? = some o -> (k = h.length /\ o = .gl e n f ty) ∨ (k < h.length /\ h[k]? = some o) := fun k o hk => by
     rw [List.getElem?_append] at hk
     split at hk
     ·rename_i hlt; exact .inr ⟨hlt, hk⟩
     ·have : k - h.length = 0 := by
       apply Classical.byContradiction; intro hne
       rw [List.getElem?_eq_none (by simp; omega)] at hk; cases hk
      rw [this] at hk; simp at hk
      exact .inl ⟨by omega, hk.symm⟩
    have hlive : ∀ k, liveO (h ++ [O.gl e n f ty]) k -> k = h.length ∨ liveO h k := fun k hl => by
     rcases live_get hl with ⟨cs, t, hk⟩ | ⟨_, _, _, _, hk⟩
     ·rcases hcell k _ hk with ⟨e1, _⟩ | ⟨_, g⟩
      ·exact .inl e1
      ·exact .inr (live_cells g)
     ·rcases hcell k _ hk with ⟨e1, _⟩ | ⟨_, g⟩
      ·exact .inl e1
      ·exact .inr (live_gl g)
    have hne : ∀ k, liveO h k -> k ≠ h.length := fun k hl e1 => by
     rcases live_get hl with ⟨cs, t, hk⟩ | ⟨_, _, _, _, hk⟩ <;> (have := (List.getElem?_eq_some_iff.1 hk).1; omega)
    refine ⟨fun k o hk => ?_, fun k k' x1 x2 h1 h2 h3 h4 h5 => ?_, fun k hk => ?_, fun k x1 hk => ?_⟩
    ·rcases hcell k o hk with ⟨rfl, rfl⟩ | ⟨hlt, hk⟩
     ·exact k2
     ·by_cases hd : o = .dead
      ·subst hd
       obtain ⟨g1, g2, g3⟩ := hh.blk k _ hk
       exact ⟨by unfold upd; rw [if_neg (Nat.ne_of_lt hlt)]; exact g1, g2, by rw [List.getElem?_append_left (List.getElem?_eq_some_iff.1 g3).1]; exact g3⟩
      ·exact brel_mono hsub hd (fun b az ty' g1 _ => by rw [List.getElem?_append_left (List.getElem?_eq_some_iff.1 g1).1]; exact g1) (hh.blk k _ hk)
    ·unfold upd at h3 h4
     rcases hlive k h1 with e1 | e1 <;> rcases hlive k' h2 with e2 | e2
     ·omega
     ·rw [if_pos e1] at h3; rw [if_neg (hne _ e2)] at h4; simp only [Option.some.injEq] at h3
      have := (k3 _ h3).1; have := hh.rng _ _ h4; omega
     ·rw [if_neg (hne _ e1)] at h3; rw [if_pos e2] at h4; simp only [Option.some.injEq] at h4
      have := (k3 _ h4).1; have := hh.rng _ _ h3; omega
     ·rw [if_neg (hne _ e1)] at h3; rw [if_neg (hne _ e2)] at h4
      exact hh.inj k k' x1 x2 e1 e2 h3 h4 h5
    ·simp only [List.length_append, List.length_cons, List.length_nil] at hk
     unfold upd; rw [if_neg (by omega)]; exact hh.dom k (by omega)
    ·unfold upd at hk
     split at hk
     ·simp only [Option.some.injEq] at hk; exact (k3 _ hk).2
     ·rw [List.length_append]; exact Nat.lt_of_lt_of_le (hh.rng k x1 hk) (by omega)
   ·rw [lenL_eq]
    rcases lstOf_cases hl with rfl | ⟨us, rfl⟩
    ·exact k1
    ·simp only [withL, withA, vr]
     refine ⟨_, rfl, ?_⟩
     simp only [vrs]
     exact ⟨_, _, rfl, k1, (toAs_scalar hrs _).2 rfl⟩
theorem cpOf_ok (w0 : World) (ct : CTab) (LP : LPred) (lv : Nat) : CPok w0 (SV ct lv) LP (cpOf (α := α) ct) := by
 intro f vs h K Q ν nV nS args lh KA hv hh hs hK
 unfold cpOf at hs
 split at hs
 ·rename_i C hC
  have : SV ct lv f = vP C := by cases lv <;> simp only [SV, hC]
  rw [this]
  exact conOf_ok hv hh hs hK
 ·exact hs.elim
def dstT : CTab -> Bool
 | [] => true
 | (_, .con _) :: l => dstT l
 | (_, .conL ..) :: l => dstT l
 | (_, .inl sf _) :: l => dstC sf.ntmps sf.body && dstT l
theorem dstT_look : ∀ {ct : CTab} {f : FuncId} {sf : SFun} {un : Unr}, dstT ct = true -> lookF ct f = some (.inl sf un) -> dstC sf.ntmps sf.body = true
 | [], _, _, _, _, h => by cases h
 | (k, c) :: l, f, sf, un, hd, h => by
   simp only [lookF] at h
   cases hb : Nat.beq f k with
   | true =>
     rw [hb] at h; simp only [cond] at h; cases h
     simp only [dstT, Bool.and_eq_true] at hd; exact hd.1
   | false =>
     rw [hb] at h; simp only [cond] at h
     refine dstT_look (ct := l) ?_ h
     cases c with
     | con C => exact hd
     | conL e ty C h => exact hd
     | inl sf' un' => simp only [dstT, Bool.and_eq_true] at hd; exact hd.2
theorem cfOf_ok (w0 : World) (ct : CTab) (hd : dstT ct = true) : ∀ (lv : Nat), CFok w0 (SV ct lv) (LPof w0 (SV ct)) false (cfOf (α := α) ct lv)
 | 0 => by
   intro f vs h K Q ν nV nS args lh KA hv hh hs hK
   simp only [cfOf] at hs
   split at hs
   ·rename_i C hC
    have : SV ct 0 f = vP C := by simp only [SV, hC]
    rw [this]
    exact conOf_ok hv hh hs fun v a hv hs => hK v h ν a lh (fun e => by cases e) (Nu.sub_refl ν) hh hv hs
   ·rename_i e ty C hC0 hC
    have : SV ct 0 f = vL e ty C := by simp only [SV, hC]
    rw [this]
    exact conOfL_ok hC0 hv hh hs fun v h' ν' a lh' g0 g1 g2 g3 => hK v h' ν' a lh' (fun e => by cases e) g0 g1 g2 g3
   ·exact hs.elim
 | n + 1 => by
   intro f vs h K Q ν nV nS args lh KA hv hh hs hK
   simp only [cfOf] at hs
   split at hs
   ·rename_i C hC
    have : SV ct (n + 1) f = vP C := by simp only [SV, hC]
    rw [this]
    exact conOf_ok hv hh hs fun v a hv hs => hK v h ν a lh (fun e => by cases e) (Nu.sub_refl ν) hh hv hs
   ·rename_i e ty C hC0 hC
    have : SV ct (n + 1) f = vL e ty C := by simp only [SV, hC]
    rw [this]
    exact conOfL_ok hC0 hv hh hs fun v h' ν' a lh' g0 g1 g2 g3 => hK v h' ν' a lh' (fun e => by cases e) g0 g1 g2 g3
   ·rename_i sf un hC
    have : SV ct (n + 1) f = vInl (SV ct n) sf := by simp only [SV, hC]
    rw [this]
    exact evFun_ok (cfOf_ok w0 ct hd n) (cpOf_ok w0 ct _ n) (dstT_look hd hC) hv hh hs fun v h' ν' a lh' g0 g1 g2 g3 => hK v h' ν' a lh' (fun e => by cases e) g0 (g1 nV nS) g2 g3
   ·exact hs.elim
end
inductive TabOk (P : Program) (eqs : List TypeId) (its : List IFun) : CTab -> Prop
 | nil : TabOk P eqs its []
 | con {f : FuncId} {C : PCon} {ct : CTab} (h : (vP C).Ok P f) (hl : TabOk P eqs its ct) : TabOk P eqs its ((f, .con C) :: ct)
 | conL {f : FuncId} {e : Nat} {ty : TypeId} {C : PCon} {hC : ∀ ds d p r, C ds = some (d, p, r) -> d.1 = d.2 -> p -> okL e r} {ct : CTab} (h : (vL e ty C).Ok P f) (hl : TabOk P eqs its ct) : TabOk P eqs its ((f, .conL e ty C hC) :: ct)
 | inl {f : FuncId} {fn : Func} {sf : SFun} {un : Unr} {ct : CTab} (hf : P.funcs[f]? = some fn) (hn : (fn.name == "runtime.NumGoroutine") = false) (hc : compFun P eqs its fn = some sf) (hd : dstC sf.ntmps sf.body = true) (hl : TabOk P eqs its ct) : TabOk P eqs its ((f, .inl sf un) :: ct)
theorem TabOk.look {P : Program} {eqs : List TypeId} {its : List IFun} {ct : CTab} (h : TabOk P eqs its ct) : ∀ {f : FuncId} {x : Ent}, lookF ct f = some x -> match x with
 | .con C => (vP C).Ok P f
 | .conL e ty C _ => (vL e ty C).Ok P f
 | .inl sf _ => ∃ fn, P.funcs[f]? = some fn /\ (fn.name == "runtime.NumGoroutine") = false /\ compFun P eqs its fn = some sf := by
 induction h with
 | nil => intro f x h; cases h
 | @con k C ct h hl ih =>
   intro f x hx
   simp only [lookF] at hx
   cases hb : Nat.beq f k with
   | true => rw [hb] at hx; simp only [cond] at hx; cases hx; have := Nat.eq_of_beq_eq_true hb; subst this; exact h
   | false => rw [hb] at hx; simp only [cond] at hx; exact ih hx
 | @conL k e ty C hC ct h hl ih =>
   intro f x hx
   simp only [lookF] at hx
   cases hb : Nat.beq f k with
   | true => rw [hb] at hx; simp only [cond] at hx; cases hx; have := Nat.eq_of_beq_eq_true hb; subst this; exact h
   | false => rw [hb] at hx; simp only [cond] at hx; exact ih hx
 | @inl k fn sf un ct hf hn hc hd hl ih =>
   intro f x hx
   simp only [lookF] at hx
   cases hb : Nat.beq f k with
   | true => rw [hb] at hx; simp only [cond] at hx; cases hx; have := Nat.eq_of_beq_eq_true hb; subst this; exact ⟨fn, hf, hn, hc⟩
   | false => rw [hb] at hx; simp only [cond] at hx; exact ih hx
theorem TabOk.dst {P : Program} {eqs : List TypeId} {its : List IFun} {ct : CTab} (h : TabOk P eqs its ct) : dstT ct = true := by
 induction h with
 | nil => rfl
 | con h hl ih => exact ih
 | conL h hl ih => exact ih
 | inl hf hn hc hd hl ih => simp only [dstT, hd, ih, Bool.and_self]
theorem TabOk.ok {P : Program} {eqs : List TypeId} {its : List IFun} {ct : CTab} (h : TabOk P eqs its ct) (hE : ∀ t ∈ eqs, EqInts P t) (hI : itsOk P eqs its) : ∀ (lv : Nat) (g : FuncId), (SV ct lv g).Ok P g
 | 0, g => by
   simp only [SV]
   split
   ·rename_i C hC; exact h.look hC
   ·rename_i e ty C hC0 hC; exact h.look hC
   ·exact bad_ok g
 | n + 1, g => by
   simp only [SV]
   split
   ·rename_i C hC; exact h.look hC
   ·rename_i e ty C hC0 hC; exact h.look hC
   ·rename_i sf un hC
    obtain ⟨fn, h1, h2, h3⟩ := h.look hC
    exact vInl_ok (h.ok hE hI n) hE hI h1 h2 h3
   ·exact bad_ok g
def LV : Nat := 12
def run (ct : CTab) (un : Unr) (sf : SFun) (ds : List V) : T V := evFun (cfOf ct LV) (cpOf ct) un LV sf ds [] fun v _ => .ret v
theorem vP_okG {α : Type} {P : Program} {eqs : List TypeId} {its : List IFun} {ct : CTab} {f : FuncId} {fn : Func} {sf : SFun} {un : Unr} {C : PCon} {K0 : V -> T α} {Q0 : V -> α -> Prop} (hK0 : ∀ w0 r v, sat (LPof w0 (SV ct)) (K0 v) (Q0 r) -> toA v = toA r) (hT : TabOk P eqs its ct) (hE : ∀ t ∈ eqs, EqInts P t) (hI : itsOk P eqs its) (hf : P.funcs[f]? = some fn)
 (hn : (fn.name == "runtime.NumGoroutine") = false) (hc : compFun P eqs its fn = some sf) (hd : dstC sf.ntmps sf.body = true)
 (h : ∀ w0 ds d p r, C ds = some (d, p, r) -> d.1 = d.2 -> p -> plain (toA r) = true -> sat (LPof w0 (SV ct)) (evFun (cfOf ct LV) (cpOf ct) un LV sf ds [] fun v _ => K0 v) (Q0 r)) : (vP C).Ok P f := by
 refine ⟨fun B m lh w args vs K hrel hargs hsp => ?_, fun _ _ _ _ _ hk ⟨ds, d, p, r, h1, h2, h3, h4, h5⟩ => ⟨ds, d, p, r, h1, h2, h3, h4, hk _ _ h5⟩, fun _ _ _ _ ⟨_, _, _, _, _, _, _, _, h⟩ => h⟩
 obtain ⟨ds, d, p, r, h1, h2, ⟨h30, h3⟩, h4, h5⟩ := hsp
 obtain ⟨args', g1, g2⟩ := vrs_base hrel ds args vs h1 hargs
 have hs := fun_sound (Sp := fun w0 args lh K => lh = [] /\ ∃ ds d p r, vrs w0 [] Nu.nil ds args /\ C ds = some (d, p, r) /\ (d.1 = d.2 /\ p) /\ plain (toA r) = true /\ K (toA r) []) (hT.ok hE hI LV) hE hI hf hn hc (fun w0 args lh K hw ha ⟨e, ds, d, p, r, k1, k2, ⟨k30, k3⟩, k4, k5⟩ => by
  subst e
  refine evFun_ok (cfOf_ok w0 ct hT.dst LV) (cpOf_ok w0 ct _ LV) hd k1 (HR.none w0) (h w0 ds d p r k2 k30 k3 k4) fun v h' ν' a lh' _ q1 q2 q3 => ?_
  have q3 := hK0 _ _ _ q3
  have := (toA_plain (by rw [q3]; exact k4) a).1 q2
  rw [q3] at this
  subst this
  exact ret_pure (lh := []) (l := lh') (plain_in k4) hw k5)
 obtain ⟨e1, e2⟩ := hs ⟨w, w, fun _ => False, []⟩ (fun _ => none) [] w args' vs (fun r' _ => r' = toA r) (HRel.start w) g1 ⟨rfl, ds, d, p, r, g2, h2, ⟨h30, h3⟩, h4, rfl⟩
 refine ⟨e1, e2.mono fun e w' ⟨v, r', m1, lh1, he, hv, _, hr, hk⟩ => ?_⟩
 subst hk
 exact ⟨v, _, m, lh, he, plain_rel h4 hv, Ext.refl _ _, hrel.back hr, h5⟩
inductive Ty where
 | int (k : IntKind)
 | bool
 | str
 | agg (ts : List Ty)
 | sl (ts : List Ty)
 | fn (f : FuncId) (xs ys : List Ty)
 | pd (ts : List Ty)
def iv : V -> Int
 | .int _ n => n
 | _ => 0
def bv : V -> Bool
 | .bool b => b
 | .kb b => b
 | _ => false
def sv : V -> ByteArray
 | .str s => s
 | _ => ByteArray.empty
def lenV : V -> Nat
 | .sl n _ => n
 | .sq n _ _ => n
 | _ => 0
def bndL : V -> Nat
 | .sl n _ => n
 | .sq _ m _ => m
 | _ => 0
def atV : V -> Nat -> List V
 | .sl _ f, i => f i
 | .sq _ _ f, i => f i
 | _, _ => []
def cellsV : V -> List V
 | .agg cs => cs
 | _ => []
def fxs : V -> List V
 | .fn _ xs _ => xs
 | _ => []
def fys : V -> List V
 | .fn _ _ ys => ys
 | _ => []
def pdV : V -> List V
 | .pd cs => cs
 | _ => []
def hdV : List V -> V
 | v :: _ => v
 | [] => .any
def tlV : List V -> List V
 | _ :: vs => vs
 | [] => []
def isCellTy : Ty -> Bool
 | .agg _ => false
 | .fn .. => false
 | .pd _ => false
 | _ => true
mutual
def view : Ty -> V -> V
 | .int k, v => .int k (iv v)
 | .bool, v => .bool (bv v)
 | .str, v => .str (sv v)
 | .agg ts, v => .agg (views ts (cellsV v))
 | .sl ts, v => .sl (lenV v) fun i => views ts (atV v i)
 | .fn f xs ys, v => .fn f (views xs (fxs v)) (views ys (fys v))
 | .pd ts, v => .pd (views ts (pdV v))
def views : List Ty -> List V -> List V
 | [], _ => []
 | t :: ts, vs => view t (hdV vs) :: views ts (tlV vs)
end
mutual
def hasTy : Ty -> V -> Prop
 | .int k, v => v = .int k (iv v)
 | .bool, v => v = .bool (bv v) ∨ v = .kb (bv v)
 | .str, v => v = .str (sv v)
 | .agg ts, v => v = .agg (cellsV v) /\ hasTys ts (cellsV v)
 | .sl ts, v => (v = .sl (lenV v) (atV v) ∨ v = .sq (lenV v) (bndL v) (atV v)) /\ ts.all isCellTy = true /\ ∀ i, i < bndL v -> hasTys ts (atV v i)
 | .fn f xs ys, v => v = .fn f (fxs v) (fys v) /\ hasTys xs (fxs v) /\ hasTys ys (fys v)
 | .pd ts, v => v = .pd (pdV v) /\ ts.all isCellTy = true /\ hasTys ts (pdV v)
def hasTys : List Ty -> List V -> Prop
 | [], vs => vs = []
 | t :: ts, vs => vs = hdV vs :: tlV vs /\ hasTy t (hdV vs) /\ hasTys ts (tlV vs)
end
theorem views_fc : ∀ (ts : List Ty) (vs : List V), ts.all isCellTy = true -> (views ts vs).all V.fc = true
 | [], _, _ => by simp [views]
 | t :: ts, vs, h => by
   simp only [List.all_cons, Bool.and_eq_true] at h
   simp only [views, List.all_cons, Bool.and_eq_true]
   refine ⟨?_, views_fc ts _ h.2⟩
   cases t <;> first | rfl | (simp [isCellTy] at h) | (simp only [view]; rfl)
theorem hasTys_len : ∀ {ts : List Ty} {vs : List V}, hasTys ts vs -> vs.length = ts.length
 | [], vs, h => by simp only [hasTys] at h; subst h; rfl
 | t :: ts, vs, h => by simp only [hasTys] at h; rw [h.1]; simp [hasTys_len h.2.2]
section
variable {w0 : World} {lh : List LObj}
theorem views_len : ∀ (ts : List Ty) (vs : List V), (views ts vs).length = ts.length
 | [], _ => by simp [views]
 | t :: ts, vs => by simp [views, views_len ts]
mutual
theorem view_ok : ∀ (t : Ty) (v : V) (a : AVal), hasTy t v -> vr w0 lh Nu.nil v a -> vr w0 lh Nu.nil (view t v) a
 | .int k, v, a, h, hv => by simp only [hasTy] at h; simp only [view]; rw [h] at hv; exact hv
 | .bool, v, a, h, hv => by
   simp only [hasTy] at h; simp only [view, vr]
   rcases h with h | h <;> (rw [h] at hv; simp only [vr] at hv; exact hv)
 | .str, v, a, h, hv => by simp only [hasTy] at h; simp only [view]; rw [h] at hv; exact hv
 | .agg ts, v, a, h, hv => by
   simp only [hasTy] at h
   rw [h.1] at hv
   simp only [view, vr] at hv ⊢
   obtain ⟨az, h1, h2⟩ := hv
   exact ⟨az, h1, views_ok ts _ az h.2 h2⟩
 | .sl ts, v, a, h, hv => by
   simp only [hasTy] at h
   rcases h.1 with h0 | h0
   ·have hb : bndL v = lenV v := by rw [h0]; rfl
    rw [h0] at hv
    simp only [view, vr] at hv ⊢
    obtain ⟨p, c, esz, h1, h2, h3, h4, h5⟩ := hv
    exact ⟨p, c, esz, h1, h2, h3, h4, fun i hi => let ⟨q, az, g1, g2, g3, g4⟩ := h5 i hi; ⟨q, az, g1, g2, views_ok ts _ az (h.2.2 i (by omega)) g3, views_fc ts _ h.2.1⟩⟩
   ·rw [h0] at hv
    simp only [view, vr] at hv ⊢
    obtain ⟨p, c, esz, h1, ⟨h2, h2'⟩, h3, h4, h5⟩ := hv
    exact ⟨p, c, esz, h1, h2, h3, h4, fun i hi => let ⟨q, az, g1, g2, g3, g4⟩ := h5 i hi; ⟨q, az, g1, g2, views_ok ts _ az (h.2.2 i (by omega)) g3, views_fc ts _ h.2.1⟩⟩
 | .fn f xs ys, v, a, h, hv => by
   simp only [hasTy] at h
   rw [h.1] at hv
   simp only [view, vr] at hv ⊢
   obtain ⟨us, vs, h1, h2, h3⟩ := hv
   exact ⟨us, vs, h1, views_ok xs _ us h.2.1 h2, views_ok ys _ vs h.2.2 h3⟩
 | .pd ts, v, a, h, hv => by
   simp only [hasTy] at h
   rw [h.1] at hv
   simp only [view, vr] at hv ⊢
   obtain ⟨p, az, h1, h2, h3, h4, h5⟩ := hv
   have hl := hasTys_len h.2.2
   refine ⟨p, az, h1, h2, by rw [views_len, ← hl]; exact h3, views_ok ts _ az h.2.2 h4, views_fc ts _ h.2.1⟩
theorem views_ok : ∀ (ts : List Ty) (vs : List V) (az : List AVal), hasTys ts vs -> vrs w0 lh Nu.nil vs az -> vrs w0 lh Nu.nil (views ts vs) az
 | [], vs, az, h, hv => by simp only [hasTys] at h; subst h; simpa only [views] using hv
 | t :: ts, vs, az, h, hv => by
   simp only [hasTys] at h
   rw [h.1] at hv
   simp only [vrs] at hv
   obtain ⟨x, xs, rfl, h1, h2⟩ := hv
   simp only [views, vrs]
   exact ⟨x, xs, rfl, view_ok t _ x h.2.1 h1, views_ok ts _ xs h.2.2 h2⟩
end
end
mutual
def okTy : Ty -> Bool
 | .agg ts => okTys ts
 | .sl ts => ts.all isCellTy && okTys ts
 | .fn _ xs ys => okTys xs && okTys ys
 | .pd ts => ts.all isCellTy && okTys ts
 | _ => true
def okTys : List Ty -> Bool
 | [] => true
 | t :: ts => okTy t && okTys ts
end
def accJ : Nat -> (Nat -> List V -> List V) -> List V -> List V
 | 0, _, k => k
 | j + 1, g, k => g j (accJ j g k)
mutual
def fxL : Ty -> V -> List V -> List V
 | .agg ts, v, k => .agg (cellsV v) :: fxLs ts (cellsV v) k
 | .sl ts, v, k => match v with
   | .sq _ m f => accJ m (fun j k => fxLs ts (f j) k) k
   | v => view (.sl ts) v :: k
 | .fn f xs ys, v, k => .fn f (fxs v) (fys v) :: fxLs xs (fxs v) (fxLs ys (fys v) k)
 | .pd ts, v, k => .pd (pdV v) :: fxLs ts (pdV v) k
 | t, v, k => view t v :: k
def fxLs : List Ty -> List V -> List V -> List V
 | [], _, k => .agg [] :: k
 | t :: ts, vs, k => .agg (hdV vs :: tlV vs) :: fxL t (hdV vs) (fxLs ts (tlV vs) k)
end
mutual
def fxR : Ty -> V -> List V -> List V
 | .agg ts, v, k => v :: fxRs ts (cellsV v) k
 | .sl ts, v, k => match v with
   | .sq _ m f => accJ m (fun j k => fxRs ts (f j) k) k
   | v => v :: k
 | .fn _ xs ys, v, k => v :: fxRs xs (fxs v) (fxRs ys (fys v) k)
 | .pd ts, v, k => v :: fxRs ts (pdV v) k
 | _, v, k => v :: k
def fxRs : List Ty -> List V -> List V -> List V
 | [], vs, k => .agg vs :: k
 | t :: ts, vs, k => .agg vs :: fxR t (hdV vs) (fxRs ts (tlV vs) k)
end
theorem accJ_eq {P : Nat -> Prop} {g g' : Nat -> List V -> List V} (hg : ∀ j k k', g j k = g' j k' -> P j /\ k = k') : ∀ (m : Nat) (k k' : List V), accJ m g k = accJ m g' k' -> (∀ j, j < m -> P j) /\ k = k'
 | 0, k, k', h => ⟨fun j hj => by omega, h⟩
 | m + 1, k, k', h => by
   simp only [accJ] at h
   obtain ⟨h1, h2⟩ := hg m _ _ h
   obtain ⟨h3, h4⟩ := accJ_eq hg m k k' h2
   exact ⟨fun j hj => by
    by_cases e : j = m
    ·subst e; exact h1
    ·exact h3 j (by omega), h4⟩
theorem hasTys_views : ∀ (ts : List Ty) (vs : List V), okTys ts = true -> views ts vs = vs -> hasTys ts vs := by
 have key : ∀ (ts : List Ty), okTys ts = true -> ∀ vs, views ts vs = vs -> hasTys ts vs := fun ts ho vs h => hasTys_of' ts vs ho h
 exact fun ts vs ho h => key ts ho vs h
where
 hasTy_of' : ∀ (t : Ty) (v : V), okTy t = true -> view t v = v -> hasTy t v
 | .int k, v, _, h => by simp only [view] at h; simp only [hasTy]; exact h.symm
 | .bool, v, _, h => by simp only [view] at h; simp only [hasTy]; exact .inl h.symm
 | .str, v, _, h => by simp only [view] at h; simp only [hasTy]; exact h.symm
 | .agg ts, v, ho, h => by
   simp only [view] at h; simp only [okTy] at ho
   have h2 : views ts (cellsV v) = cellsV v := by have := congrArg cellsV h; simpa only [cellsV] using this
   simp only [hasTy]
   exact ⟨by rw [h2] at h; exact h.symm, hasTys_of' ts _ ho h2⟩
 | .sl ts, v, ho, h => by
   simp only [view] at h; simp only [okTy, Bool.and_eq_true] at ho
   have h2 : ∀ i, views ts (atV v i) = atV v i := fun i => by
    have := congrArg (fun u => atV u i) h
    simpa only [atV] using this
   simp only [hasTy]
   refine ⟨.inl ?_, ho.1, fun i _ => hasTys_of' ts _ ho.2 (h2 i)⟩
   have h3 : (fun i => views ts (atV v i)) = atV v := funext h2
   rw [h3] at h; exact h.symm
 | .fn f xs ys, v, ho, h => by
   simp only [view] at h; simp only [okTy, Bool.and_eq_true] at ho
   have h2 : views xs (fxs v) = fxs v := by have := congrArg fxs h; simpa only [fxs] using this
   have h3 : views ys (fys v) = fys v := by have := congrArg fys h; simpa only [fys] using this
   simp only [hasTy]
   exact ⟨by rw [h2, h3] at h; exact h.symm, hasTys_of' xs _ ho.1 h2, hasTys_of' ys _ ho.2 h3⟩
 | .pd ts, v, ho, h => by
   simp only [view] at h; simp only [okTy, Bool.and_eq_true] at ho
   have h2 : views ts (pdV v) = pdV v := by have := congrArg pdV h; simpa only [pdV] using this
   simp only [hasTy]
   exact ⟨by rw [h2] at h; exact h.symm, ho.1, hasTys_of' ts _ ho.2 h2⟩
 hasTys_of' : ∀ (ts : List Ty) (vs : List V), okTys ts = true -> views ts vs = vs -> hasTys ts vs
 | [], vs, _, h => by simp only [views] at h; simp only [hasTys]; exact h.symm
 | t :: ts, vs, ho, h => by
   simp only [views] at h; simp only [okTys, Bool.and_eq_true] at ho
   have h2 : view t (hdV vs) = hdV vs := by have := congrArg hdV h; simpa only [hdV] using this
   have h3 : views ts (tlV vs) = tlV vs := by have := congrArg tlV h; simpa only [tlV] using this
   simp only [hasTys]
   exact ⟨by rw [h2, h3] at h; exact h.symm, hasTy_of' t _ ho.1 h2, hasTys_of' ts _ ho.2 h3⟩
def elV (ts : List Ty) (f : FnV) : Nat -> List V := fun i => views ts (f i)
mutual
def unq : Ty -> V -> V
 | .agg ts, v => match v with
   | .agg cs => .agg (unqs ts cs)
   | v => v
 | .sl ts, v => match v with
   | .sq n _ f => .sl n (elV ts f)
   | v => v
 | .fn _ xs ys, v => match v with
   | .fn f us vs => .fn f (unqs xs us) (unqs ys vs)
   | v => v
 | .pd ts, v => match v with
   | .pd cs => .pd (unqs ts cs)
   | v => v
 | _, v => v
def unqs : List Ty -> List V -> List V
 | [], _ => []
 | t :: ts, vs => match vs with
   | v :: vs => unq t v :: unqs ts vs
   | [] => []
end
mutual
theorem unq_eq : ∀ (t : Ty) (v : V) (k k' : List V), fxL t v k = fxR t v k' -> unq t v = view t v /\ k = k'
 | .int _, v, k, k', h => by
   simp only [fxL, fxR, List.cons.injEq] at h
   simp only [unq]; exact ⟨h.1.symm, h.2⟩
 | .bool, v, k, k', h => by
   simp only [fxL, fxR, List.cons.injEq] at h
   simp only [unq]; exact ⟨h.1.symm, h.2⟩
 | .str, v, k, k', h => by
   simp only [fxL, fxR, List.cons.injEq] at h
   simp only [unq]; exact ⟨h.1.symm, h.2⟩
 | .agg ts, v, k, k', h => by
   simp only [fxL, fxR, List.cons.injEq] at h
   obtain ⟨h1, h2⟩ := unqs_eq ts _ k k' h.2
   obtain ⟨cs, rfl⟩ : ∃ cs, v = .agg cs := ⟨_, h.1.symm⟩
   simp only [cellsV] at h1
   simp only [unq, view, cellsV, h1]; exact ⟨trivial, h2⟩
 | .sl ts, v, k, k', h => by
   by_cases hv : ∃ n m f, v = .sq n m f
   ·obtain ⟨n, m, f, rfl⟩ := hv
    simp only [fxL, fxR] at h
    obtain ⟨_, h2⟩ := accJ_eq (P := fun _ => True) (fun j k k' hj => ⟨trivial, (unqs_eq ts (f j) k k' hj).2⟩) m k k' h
    exact ⟨rfl, h2⟩
   ·cases v <;> first | exact (hv ⟨_, _, _, rfl⟩).elim | (simp only [fxL, fxR, List.cons.injEq] at h; simp only [unq]; exact ⟨h.1.symm, h.2⟩)
 | .fn f xs ys, v, k, k', h => by
   simp only [fxL, fxR, List.cons.injEq] at h
   obtain ⟨h1, h2⟩ := unqs_eq xs _ _ _ h.2
   obtain ⟨h3, h4⟩ := unqs_eq ys _ _ _ h2
   obtain ⟨us, vs, rfl⟩ : ∃ us vs, v = .fn f us vs := ⟨_, _, h.1.symm⟩
   simp only [fxs] at h1
   simp only [fys] at h3
   simp only [unq, view, fxs, fys, h1, h3]; exact ⟨trivial, h4⟩
 | .pd ts, v, k, k', h => by
   simp only [fxL, fxR, List.cons.injEq] at h
   obtain ⟨h1, h2⟩ := unqs_eq ts _ k k' h.2
   obtain ⟨cs, rfl⟩ : ∃ cs, v = .pd cs := ⟨_, h.1.symm⟩
   simp only [pdV] at h1
   simp only [unq, view, pdV, h1]; exact ⟨trivial, h2⟩
theorem unqs_eq : ∀ (ts : List Ty) (vs : List V) (k k' : List V), fxLs ts vs k = fxRs ts vs k' -> unqs ts vs = views ts vs /\ k = k'
 | [], vs, k, k', h => by
   simp only [fxLs, fxRs, List.cons.injEq, V.agg.injEq] at h
   simp only [unqs, views]; exact ⟨trivial, h.2⟩
 | t :: ts, vs, k, k', h => by
   simp only [fxLs, fxRs, List.cons.injEq, V.agg.injEq] at h
   obtain ⟨h1, h2⟩ := unq_eq t _ _ _ h.2
   obtain ⟨h3, h4⟩ := unqs_eq ts _ _ _ h2
   have h0 := h.1
   cases vs with
   | nil => cases h0
   | cons v vs =>
     simp only [hdV, tlV] at h1 h3
     simp only [unqs, views, hdV, tlV, h1, h3]; exact ⟨trivial, h4⟩
end
mutual
theorem fx_ok : ∀ (t : Ty) (v : V) (k k' : List V), okTy t = true -> fxL t v k = fxR t v k' -> hasTy t v /\ k = k'
 | .int _, v, k, k', _, h => by
   simp only [fxL, fxR, List.cons.injEq] at h
   simp only [view] at h; simp only [hasTy]; exact ⟨h.1.symm, h.2⟩
 | .bool, v, k, k', _, h => by
   simp only [fxL, fxR, List.cons.injEq, view] at h
   simp only [hasTy]
   exact ⟨.inl h.1.symm, h.2⟩
 | .str, v, k, k', _, h => by
   simp only [fxL, fxR, List.cons.injEq] at h
   simp only [view] at h; simp only [hasTy]; exact ⟨h.1.symm, h.2⟩
 | .agg ts, v, k, k', ho, h => by
   simp only [fxL, fxR, List.cons.injEq] at h; simp only [okTy] at ho
   obtain ⟨h1, h2⟩ := fxs_ok ts _ k k' ho h.2
   simp only [hasTy]; exact ⟨⟨h.1.symm, h1⟩, h2⟩
 | .sl ts, v, k, k', ho, h => by
   have ho' := ho
   simp only [okTy, Bool.and_eq_true] at ho
   by_cases hv : ∃ n m f, v = .sq n m f
   ·obtain ⟨n, m, f, rfl⟩ := hv
    simp only [fxL, fxR] at h
    obtain ⟨h1, h2⟩ := accJ_eq (P := fun j => hasTys ts (f j)) (fun j k k' hj => fxs_ok ts (f j) k k' ho.2 hj) m k k' h
    simp only [hasTy, lenV, atV, bndL]
    exact ⟨⟨.inr rfl, ho.1, h1⟩, h2⟩
   ·have h' : view (.sl ts) v = v /\ k = k' := by
     cases v <;> first | exact (hv ⟨_, _, _, rfl⟩).elim | (simp only [fxL, fxR, List.cons.injEq] at h; exact h)
    have := hasTys_views [.sl ts] [v] (by simp only [okTys, ho', Bool.and_true]) (by simp only [views, hdV, tlV, h'.1])
    simp only [hasTys, hdV] at this
    exact ⟨this.2.1, h'.2⟩
 | .fn f xs ys, v, k, k', ho, h => by
   simp only [fxL, fxR, List.cons.injEq] at h; simp only [okTy, Bool.and_eq_true] at ho
   obtain ⟨h1, h2⟩ := fxs_ok xs _ _ _ ho.1 h.2
   obtain ⟨h3, h4⟩ := fxs_ok ys _ _ _ ho.2 h2
   simp only [hasTy]; exact ⟨⟨h.1.symm, h1, h3⟩, h4⟩
 | .pd ts, v, k, k', ho, h => by
   simp only [fxL, fxR, List.cons.injEq] at h; simp only [okTy, Bool.and_eq_true] at ho
   obtain ⟨h1, h2⟩ := fxs_ok ts _ k k' ho.2 h.2
   simp only [hasTy]; exact ⟨⟨h.1.symm, ho.1, h1⟩, h2⟩
theorem fxs_ok : ∀ (ts : List Ty) (vs : List V) (k k' : List V), okTys ts = true -> fxLs ts vs k = fxRs ts vs k' -> hasTys ts vs /\ k = k'
 | [], vs, k, k', _, h => by
   simp only [fxLs, fxRs, List.cons.injEq, V.agg.injEq] at h
   simp only [hasTys]; exact ⟨h.1.symm, h.2⟩
 | t :: ts, vs, k, k', ho, h => by
   simp only [fxLs, fxRs, List.cons.injEq, V.agg.injEq] at h; simp only [okTys, Bool.and_eq_true] at ho
   obtain ⟨h1, h2⟩ := fx_ok t _ _ _ ho.1 h.2
   obtain ⟨h3, h4⟩ := fxs_ok ts _ _ _ ho.2 h2
   simp only [hasTys]; exact ⟨⟨h.1.symm, h1, h3⟩, h4⟩
end
def mkC (ts : List Ty) (pre : List V -> Prop) (r : List V -> V) : PCon := fun ds => some ((fxLs ts ds [], fxRs ts ds []), pre (unqs ts ds), r (unqs ts ds))
theorem mkC_okG {α : Type} {P : Program} {eqs : List TypeId} {its : List IFun} {ct : CTab} {f : FuncId} {fn : Func} {sf : SFun} {un : Unr} {ts : List Ty} {pre : List V -> Prop} {r : List V -> V} {K0 : V -> T α} {Q0 : V -> α -> Prop} (hK0 : ∀ w0 r v, sat (LPof w0 (SV ct)) (K0 v) (Q0 r) -> toA v = toA r) (hT : TabOk P eqs its ct) (hE : ∀ t ∈ eqs, EqInts P t) (hI : itsOk P eqs its) (hf : P.funcs[f]? = some fn)
 (hn : (fn.name == "runtime.NumGoroutine") = false) (hc : compFun P eqs its fn = some sf) (hd : dstC sf.ntmps sf.body = true) (ho : okTys ts = true)
 (h : ∀ w0 ds, pre (views ts ds) -> sat (LPof w0 (SV ct)) (evFun (cfOf ct LV) (cpOf ct) un LV sf (views ts ds) [] fun v _ => K0 v) (Q0 (r (views ts ds)))) : (vP (mkC ts pre r)).Ok P f := by
 refine ⟨fun B m lh w args vs K hrel hargs hsp => ?_, fun _ _ _ _ _ hk ⟨ds, d, p, r, h1, h2, h3, h4, h5⟩ => ⟨ds, d, p, r, h1, h2, h3, h4, hk _ _ h5⟩, fun _ _ _ _ ⟨_, _, _, _, _, _, _, _, h⟩ => h⟩
 obtain ⟨ds, d, p, r', h1, h2, ⟨h30, h3⟩, h4, h5⟩ := hsp
 simp only [mkC, Option.some.injEq, Prod.mk.injEq] at h2
 obtain ⟨rfl, rfl, rfl⟩ := h2
 have hty := (fxs_ok ts ds [] [] ho h30).1
 rw [(unqs_eq ts ds [] [] h30).1] at h3 h4 h5
 have key2 := vP_okG (C := fun ds' => some ((ds', views ts ds), pre (views ts ds), r (views ts ds))) (P := P) (f := f) hK0 hT hE hI hf hn hc hd (fun w0 ds' d' p' r' e he hp _ => by
  simp only [Option.some.injEq, Prod.mk.injEq] at e
  obtain ⟨rfl, rfl, rfl⟩ := e
  simp only at he
  subst he
  exact h w0 ds hp)
 exact key2.sound B m lh w args vs K hrel hargs ⟨views ts ds, _, _, _, views_ok ts ds args hty h1, rfl, ⟨rfl, h3⟩, h4, h5⟩
abbrev Rho := List (Option (Option Nat))
def rhoAt (ρ : Rho) (k : Nat) : Option (Option Nat) := match nth ρ k with
 | some x => x
 | none => none
mutual
def subV (ρ : Rho) : V -> V -> Prop
 | v, .any => True ∨ v = .any
 | .int k a, .int k' b => k = k' /\ a = b
 | .bool a, .bool b => a = b
 | .kb a, .bool b => a = b
 | .kb a, .kb b => a = b
 | .str a, .str b => a = b
 | .agg xs, .agg ys => subVs ρ xs ys
 | .tup xs, .tup ys => subVs ρ xs ys
 | .fn f xs ys, .fn g us vs => f = g /\ subVs ρ xs us /\ subVs ρ ys vs
 | .sl n f, .sl m g => n = m /\ f = g
 | .pd cs, .pd ds => cs = ds
 | .pl k o, .pl k1 o1 => rhoAt ρ k1 = some (some k) /\ o = o1
 | .pe k i j, .pe k1 i1 j1 => rhoAt ρ k1 = some (some k) /\ i = i1 /\ j = j1
 | .ss k o n c, .ss k1 o1 n1 c1 => rhoAt ρ k1 = some (some k) /\ o = o1 /\ n = n1 /\ c = c1
 | .gs k n, .gs k1 n1 => rhoAt ρ k1 = some (some k) /\ n = n1
 | .ns, .gs k1 n1 => rhoAt ρ k1 = some none /\ n1 = 0
 | .ns, .ns => True
 | .np, .np => True
 | .yl l, .yl l1 => l = l1
 | .go k o n, .go k1 o1 n1 => rhoAt ρ k1 = some (some k) /\ o = o1 /\ n = n1
 | _, _ => False
def subVs (ρ : Rho) : List V -> List V -> Prop
 | [], [] => True
 | x :: xs, y :: ys => subV ρ x y /\ subVs ρ xs ys
 | _, _ => False
end
def envSub (ρ : Rho) (e : Env) : Env -> Prop
 | [] => True
 | (s, v) :: l => subV ρ (getS e s) v /\ envSub ρ e l
def blkSub (ρ : Rho) (h : List O) (k : Nat) : O -> Prop
 | .cells cs ty => ∃ j ds, rhoAt ρ k = some (some j) /\ nth h j = some (.cells ds ty) /\ subVs ρ ds cs
 | .gl e n f ty => (rhoAt ρ k = some none /\ n = 0) ∨ ∃ j m g, rhoAt ρ k = some (some j) /\ nth h j = some (.gl e m g ty) /\ n <= m /\ ∀ i, i < n -> okE e (f i) = true /\ subVs ρ (g i) (f i)
 | .dead => False
 | .hid => True
def heapSub (ρ : Rho) (h : List O) : Nat -> List O -> Prop
 | _, [] => True
 | k, o :: l => blkSub ρ h k o /\ heapSub ρ h (k + 1) l
def injFrom (x : Option (Option Nat)) : Rho -> Bool
 | [] => true
 | y :: l => (match x, y with
   | some (some a), some (some b) => !Nat.beq a b
   | _, _ => true) && injFrom x l
def injR : Rho -> Bool
 | [] => true
 | x :: l => injFrom x l && injR l
def idTo (ρ : Rho) : Nat -> Bool
 | 0 => true
 | k + 1 => (match rhoAt ρ k with
   | some (some j) => Nat.beq j k
   | _ => false) && idTo ρ k
def nuOf (ρ : Rho) (ν : Nu) : Nu := fun k => match rhoAt ρ k with
 | some (some j) => ν j
 | some none => some none
 | none => none
section
variable {w0 : World} {ν : Nu} {ρ : Rho} {lh : List LObj}
mutual
theorem subV_ok : ∀ (v v1 : V) (a : AVal), subV ρ v v1 -> vr w0 [] ν v a -> vr w0 [] (nuOf ρ ν) v1 a
 | .int k n, v1, a, h, hv => by
   cases v1 <;> simp only [subV] at h
   case int => obtain ⟨rfl, rfl⟩ := h; simp only [vr] at hv ⊢; exact hv
   case any => simp only [vr]
 | .bool b, v1, a, h, hv => by
   cases v1 <;> simp only [subV] at h
   case bool => subst h; simp only [vr] at hv ⊢; exact hv
   case any => simp only [vr]
 | .kb b, v1, a, h, hv => by
   cases v1 <;> simp only [subV] at h
   case bool => subst h; simp only [vr] at hv ⊢; exact hv
   case kb => subst h; simp only [vr] at hv ⊢; exact hv
   case any => simp only [vr]
 | .str b, v1, a, h, hv => by
   cases v1 <;> simp only [subV] at h
   case str => subst h; simp only [vr] at hv ⊢; exact hv
   case any => simp only [vr]
 | .agg xs, v1, a, h, hv => by
   cases v1 <;> simp only [subV] at h
   case agg => simp only [vr] at hv ⊢; obtain ⟨az, h1, h2⟩ := hv; exact ⟨az, h1, subVs_ok xs _ az h h2⟩
   case any => simp only [vr]
 | .tup xs, v1, a, h, hv => by
   cases v1 <;> simp only [subV] at h
   case tup => simp only [vr] at hv ⊢; obtain ⟨az, h1, h2⟩ := hv; exact ⟨az, h1, subVs_ok xs _ az h h2⟩
   case any => simp only [vr]
 | .fn f xs ys, v1, a, h, hv => by
   cases v1 <;> simp only [subV] at h
   case fn => obtain ⟨rfl, g1, g2⟩ := h; simp only [vr] at hv ⊢; obtain ⟨az, bs, h1, h2, h3⟩ := hv; exact ⟨az, bs, h1, subVs_ok xs _ az g1 h2, subVs_ok ys _ bs g2 h3⟩
   case any => simp only [vr]
 | .sl n f, v1, a, h, hv => by
   cases v1 <;> simp only [subV] at h
   case sl => obtain ⟨rfl, rfl⟩ := h; simp only [vr] at hv ⊢; exact hv
   case any => simp only [vr]
 | .pd cs, v1, a, h, hv => by
   cases v1 <;> simp only [subV] at h
   case pd => subst h; simp only [vr] at hv ⊢; exact hv
   case any => simp only [vr]
 | .pl k o, v1, a, h, hv => by
   cases v1 <;> simp only [subV] at h
   case pl => obtain ⟨h1, rfl⟩ := h; simp only [vr] at hv ⊢; simp only [nuOf, h1]; exact hv
   case any => simp only [vr]
 | .pe k i j, v1, a, h, hv => by
   cases v1 <;> simp only [subV] at h
   case pe => obtain ⟨h1, rfl, rfl⟩ := h; simp only [vr] at hv ⊢; simp only [nuOf, h1]; exact hv
   case any => simp only [vr]
 | .ss k o n c, v1, a, h, hv => by
   cases v1 <;> simp only [subV] at h
   case ss => obtain ⟨h1, rfl, rfl, rfl⟩ := h; simp only [vr] at hv ⊢; simp only [nuOf, h1]; exact hv
   case any => simp only [vr]
 | .gs k n, v1, a, h, hv => by
   cases v1 <;> simp only [subV] at h
   case gs => obtain ⟨h1, rfl⟩ := h; simp only [vr] at hv ⊢; simp only [nuOf, h1]; exact hv
   case any => simp only [vr]
 | .ns, v1, a, h, hv => by
   cases v1 <;> simp only [subV] at h
   case gs => obtain ⟨h1, rfl⟩ := h; simp only [vr] at hv ⊢; simp only [nuOf, h1]; exact .inl ⟨trivial, trivial, hv⟩
   case ns => simp only [vr] at hv ⊢; exact hv
   case any => simp only [vr]
 | .np, v1, a, h, hv => by
   cases v1 <;> simp only [subV] at h
   case np => simp only [vr] at hv ⊢; exact hv
   case any => simp only [vr]
 | .any, v1, a, h, hv => by
   cases v1 <;> simp only [subV] at h
   case any => simp only [vr]
 | .gd b v, v1, a, h, hv => by
   cases v1 <;> simp only [subV] at h
   case any => simp only [vr]
 | .yl l, v1, a, h, hv => by
   cases v1 <;> simp only [subV] at h
   case yl => subst h; simp only [vr] at hv ⊢; exact hv
   case any => simp only [vr]
 | .go k o n, v1, a, h, hv => by
   cases v1 <;> simp only [subV] at h
   case go => obtain ⟨h1, rfl, rfl⟩ := h; simp only [vr] at hv ⊢; simp only [nuOf, h1]; exact hv
   case any => simp only [vr]
 | .sq n m f, v1, a, h, hv => by
   cases v1 <;> simp only [subV] at h
   case any => simp only [vr]
theorem subVs_ok : ∀ (vs us : List V) (az : List AVal), subVs ρ vs us -> vrs w0 [] ν vs az -> vrs w0 [] (nuOf ρ ν) us az
 | [], [], az, _, hv => by simp only [vrs] at hv ⊢; exact hv
 | v :: vs, u :: us, az, h, hv => by
   simp only [subVs] at h
   simp only [vrs] at hv ⊢
   obtain ⟨x, xs, h1, h2, h3⟩ := hv
   exact ⟨x, xs, h1, subV_ok v u x h.1 h2, subVs_ok vs us xs h.2 h3⟩
 | [], _ :: _, _, h, _ => by simp only [subVs] at h
 | _ :: _, [], _, h, _ => by simp only [subVs] at h
end
theorem envSub_at : ∀ {e e1 : Env} (s : Nat), envSub ρ e e1 -> getS e1 s = .any ∨ subV ρ (getS e s) (getS e1 s)
 | e, [], s, _ => .inl rfl
 | e, (d, v) :: l, s, h => by
   simp only [envSub] at h
   rw [getS_cons]
   by_cases hd : s = d
   ·subst hd; rw [if_pos rfl]; exact .inr h.1
   ·rw [if_neg hd]; exact envSub_at s h.2
theorem heapSub_at {h : List O} : ∀ {l : List O} {k i : Nat} {o : O}, heapSub ρ h k l -> l[i]? = some o -> blkSub ρ h (k + i) o
 | [], _, _, _, _, hi => by simp at hi
 | x :: l, k, 0, o, hh, hi => by simp at hi; subst hi; exact hh.1
 | x :: l, k, i + 1, o, hh, hi => by
   have := heapSub_at (i := i) hh.2 (by simpa using hi)
   rwa [show k + 1 + i = k + (i + 1) by omega] at this
theorem injFrom_ok : ∀ {l : Rho} {a i : Nat}, injFrom (some (some a)) l = true -> nth l i = some (some (some a)) -> False
 | [], _, _, _, h => by cases h
 | y :: l, a, 0, h, hi => by
   simp only [nth, Option.some.injEq] at hi; subst hi
   simp [injFrom] at h
 | y :: l, a, i + 1, h, hi => by
   simp only [injFrom, Bool.and_eq_true] at h
   exact injFrom_ok h.2 hi
theorem injR_ok : ∀ {l : Rho} {a i j : Nat}, injR l = true -> nth l i = some (some (some a)) -> nth l j = some (some (some a)) -> i = j
 | [], _, _, _, _, h, _ => by cases h
 | x :: l, a, 0, 0, _, _, _ => rfl
 | x :: l, a, i + 1, 0, h, hi, hj => by
   simp only [injR, Bool.and_eq_true] at h
   simp only [nth, Option.some.injEq] at hj; subst hj
   exact (injFrom_ok h.1 hi).elim
 | x :: l, a, 0, j + 1, h, hi, hj => by
   simp only [injR, Bool.and_eq_true] at h
   simp only [nth, Option.some.injEq] at hi; subst hi
   exact (injFrom_ok h.1 hj).elim
 | x :: l, a, i + 1, j + 1, h, hi, hj => by
   simp only [injR, Bool.and_eq_true] at h
   rw [injR_ok h.2 hi hj]
theorem idTo_ok : ∀ {n k : Nat}, idTo ρ n = true -> k < n -> rhoAt ρ k = some (some k)
 | n + 1, k, h, hk => by
   simp only [idTo, Bool.and_eq_true] at h
   rcases Nat.lt_succ_iff_lt_or_eq.1 hk with hk | rfl
   ·exact idTo_ok h.2 hk
   ·have h1 := h.1
    split at h1
    ·rename_i j hj; rw [hj, Nat.eq_of_beq_eq_true h1]
    ·cases h1
theorem rhoAt_some {k j : Nat} (h : rhoAt ρ k = some (some j)) : nth ρ k = some (some (some j)) := by
 unfold rhoAt at h
 split at h
 ·rename_i x hx; rw [hx, h]
 ·cases h
theorem SubV.ren (w0 : World) {nb : Nat} {e e1 : Env} {h h1 : List O} (ρ : Rho) (hl : Nat.beq (lenL ρ) (lenL h1) = true) (hi : injR ρ = true) (hid : idTo ρ nb = true) (he : envSub ρ e e1) (hh : heapSub ρ h 0 h1) : SubV w0 nb e h e1 h1 := by
 intro N ν nV nS sl lh hs hr
 have hlen : ρ.length = h1.length := by have := Nat.eq_of_beq_eq_true hl; rwa [lenL_eq, lenL_eq] at this
 have hlive : ∀ k, liveO h1 k -> ∀ x, nuOf ρ ν k = some (some x) -> ∃ j, rhoAt ρ k = some (some j) /\ liveO h j /\ ν j = some (some x) := fun k hk x hx => by
  have hx' := hx
  simp only [nuOf] at hx
  split at hx
  ·rename_i j hj
   refine ⟨j, hj, ?_, hx⟩
   rcases live_get hk with ⟨cs, ty, hc⟩ | ⟨e', n, f, ty, hc⟩
   ·obtain ⟨j', ds, g1, g2, g3⟩ := heapSub_at (k := 0) (i := k) hh hc
    rw [Nat.zero_add, hj] at g1; cases g1
    exact live_cells (by rwa [nth_eq] at g2)
   ·rcases heapSub_at (k := 0) (i := k) hh hc with ⟨g1, _⟩ | ⟨j', m, g, g1, g2, _⟩
    ·rw [Nat.zero_add, hj] at g1; cases g1
    ·rw [Nat.zero_add, hj] at g1; cases g1
     exact live_gl (by rwa [nth_eq] at g2)
  ·cases hx
  ·cases hx
 refine ⟨nuOf ρ ν, 0, 0, fun k x hk hx => by simp only [nuOf, idTo_ok hid hk]; exact hx, ⟨hs.len, fun i => ?_⟩, ⟨fun k o hk => ?_, fun k k' x x' hk hk' hx hx' hxx => ?_, fun k hk => ?_, fun k x hx => ?_⟩⟩
 ·rcases envSub_at i he with h0 | h0
  ·rw [h0]; simp only [vr]
  ·exact subV_ok _ _ _ h0 (hs.at' i)
 ·have hb := heapSub_at (k := 0) (i := k) hh hk
  rw [Nat.zero_add] at hb
  cases o with
  | cells cs ty =>
    obtain ⟨j, ds, g1, g2, g3⟩ := hb
    rw [nth_eq] at g2
    obtain ⟨b, c, e', az, k1, k2, k3⟩ := hr.blk j _ g2
    exact ⟨b, c, e', az, by simp only [nuOf, g1]; exact k1, k2, subVs_ok _ _ _ g3 k3⟩
  | gl e' n f ty =>
    rcases hb with ⟨g1, rfl⟩ | ⟨j, m, g, g1, g2, g3, g4⟩
    ·exact .inl ⟨by simp only [nuOf, g1], rfl⟩
    ·rw [nth_eq] at g2
     rcases hr.blk j _ g2 with ⟨k1, k2⟩ | ⟨b, c, az, k1, k2, k3, k4, k5⟩
     ·exact .inl ⟨by simp only [nuOf, g1]; exact k1, by omega⟩
     ·exact .inr ⟨b, c, az, by simp only [nuOf, g1]; exact k1, k2, k3, ⟨by omega, by omega⟩, fun i hi => ⟨(g4 i hi).1, subVs_ok _ _ _ (g4 i hi).2 (k5 i (by omega)).2⟩⟩
  | dead => exact hb.elim
  | hid => trivial
 ·obtain ⟨j, g1, g2, g3⟩ := hlive k hk x hx
  obtain ⟨j', g1', g2', g3'⟩ := hlive k' hk' x' hx'
  have := hr.inj j j' x x' g2 g2' g3 g3' hxx
  subst this
  exact injR_ok hi (rhoAt_some g1) (rhoAt_some g1')
 ·simp only [nuOf, rhoAt, nth_eq]
  rw [List.getElem?_eq_none (by omega)]
 ·simp only [nuOf] at hx
  split at hx
  ·exact hr.rng _ x hx
  ·cases hx
  ·cases hx
theorem SubV.env (w0 : World) {nb : Nat} {e e1 : Env} {h : List O} (he : ∀ s, getS e1 s = .any ∨ getS e s = getS e1 s) : SubV w0 nb e h e1 h := by
 intro N ν nV nS sl lh hs hr
 refine ⟨ν, nV, nS, NuN.refl _ _, ⟨hs.len, fun i => ?_⟩, hr⟩
 rcases he i with h0 | h0
 ·rw [h0]; simp only [vr]
 ·rw [← h0]; exact hs.at' i
theorem SubV.refl (w0 : World) (nb : Nat) (e : Env) (h : List O) : SubV w0 nb e h e h := fun N ν nV nS sl lh hs hr => ⟨ν, nV, nS, NuN.refl _ _, hs, hr⟩
theorem SubV.trans {w0 : World} {nb : Nat} {e e1 e2 : Env} {h h1 h2 : List O} (a : SubV w0 nb e h e1 h1) (b : SubV w0 nb e1 h1 e2 h2) : SubV w0 nb e h e2 h2 := fun N ν nV nS sl lh hs hr => by
 obtain ⟨ν1, nV1, nS1, g0, g1, g2⟩ := a N ν nV nS sl lh hs hr
 obtain ⟨ν2, nV2, nS2, k0, k1, k2⟩ := b N ν1 nV1 nS1 sl lh g1 g2
 exact ⟨ν2, nV2, nS2, g0.trans k0, k1, k2⟩
end
def subT {α : Type} : T α -> List Bool -> T α
 | t, [] => t
 | .br _ x y, p :: ps => cond p (subT x ps) (subT y ps)
 | .und x y, p :: ps => cond p (subT x ps) (subT y ps)
 | .asm _ x, ps => subT x ps
 | .ob _ x, ps => subT x ps
 | .obi _ _ x, ps => subT x ps
 | .obp _ x, ps => subT x ps
 | .obq _ _ x, ps => subT x ps
 | t, _ => t
def pastT {α : Type} : T α -> T α
 | .ob _ x => pastT x
 | .obi _ _ x => pastT x
 | .obp _ x => pastT x
 | .obq _ _ x => pastT x
 | .asm _ x => pastT x
 | t => t
def eT : T (Ex × Env × List O) -> Env
 | .ret r => r.2.1
 | _ => []
def hT : T (Ex × Env × List O) -> List O
 | .ret r => r.2.2
 | _ => []
def rB : LBody -> RD
 | .i _ r => r
 | _ => ⟨[], .skip, .skip, [], 0⟩
def afT {α : Type} : T α -> Nat -> T α
 | .all f => f
 | _ => fun _ => .fail 0
def atT {α : Type} (t : T α) (p : List Bool) : T α := pastT (subT t p)
def slotsEq (e : Env) : Env -> Prop
 | [] => True
 | (s, v) :: l => getS e s = v /\ slotsEq e l
theorem slotsEq_at : ∀ {e e1 : Env} (s : Nat), slotsEq e e1 -> getS e1 s = .any ∨ getS e s = getS e1 s
 | e, [], s, _ => .inl rfl
 | e, (d, v) :: l, s, h => by
   simp only [slotsEq] at h
   rw [getS_cons]
   by_cases hd : s = d
   ·subst hd; rw [if_pos rfl]; exact .inr h.1
   ·rw [if_neg hd]; exact slotsEq_at s h.2
theorem SubV.slots (w0 : World) {nb : Nat} {e e1 : Env} {h h1 : List O} (hh : h = h1) (he : slotsEq e e1) : SubV w0 nb e h e1 h1 := by
 subst hh; exact SubV.env w0 fun s => slotsEq_at s he
theorem lp_ok {ct : CTab} {w0 : World} (hd : dstT ct = true) {lv nb : Nat} {un : Unr} {body : SCode} {e : Env} {h : List O} {Post : Ex -> Env -> List O -> Option Ex -> Prop} (bi : Nat)
 (I : Type) (inv : I -> Env × List O) (μ : I -> Nat) (h0 : ∃ i, SubV w0 nb e h (inv i).1 (inv i).2)
 (round : ∀ i, sat (LPof w0 (SV ct)) (evC (cfOf ct lv) (cpOf ct) un (lv, nb) bi body (inv i).1 (inv i).2 fun x e h => .ret (x, e, h)) fun r => match r.1 with
   | .normal => ∃ i', SubV w0 nb r.2.1 r.2.2 (inv i').1 (inv i').2 /\ μ i' < μ i
   | x => Post x r.2.1 r.2.2 none) : LPof w0 (SV ct) (lv, nb) (.s body) e h none Post :=
 loop_ok (fr := (lv, nb)) (cfOf_ok w0 ct hd lv) (cpOf_ok w0 ct _ lv) I inv μ h0 round
theorem ilp_ok {ct : CTab} {w0 : World} (hd : dstT ct = true) {lv nb : Nat} {un : Unr} {body : ICode} {rd : RD} {e : Env} {h : List O} {g : Option Ex} {Post : Ex -> Env -> List O -> Option Ex -> Prop} (bi bi' : Nat)
 (I : Type) (inv : I -> Env × List O × Option Ex) (μ : I -> Nat) (h0 : ∃ i, g = (inv i).2.2 /\ SubV w0 nb e h (inv i).1 (inv i).2.1)
 (round : ∀ i, sat (LPof w0 (SV ct)) (evIt (cfOf ct lv) (cpOf ct) un (lv, nb) rd (rdY (cfOf ct lv) (cpOf ct) un lv bi' rd) bi body (inv i).1 (inv i).2.1 (inv i).2.2 fun x e h g => .ret (x, e, h, g)) fun r => match r.1 with
   | .normal => ∃ i', r.2.2.2 = (inv i').2.2 /\ SubV w0 nb r.2.1 r.2.2.1 (inv i').1 (inv i').2.1 /\ μ i' < μ i
   | x => Post x r.2.1 r.2.2.1 r.2.2.2) : LPof w0 (SV ct) (lv, nb) (.i body rd) e h g Post :=
 iloop_ok (fr := (lv, nb)) (cfOf_ok w0 ct hd lv) (cpOf_ok w0 ct _ lv) I inv μ h0 round
def fieldsTys (P : Program) (rec : TypeId -> Option (List Ty)) : List Field -> Nat -> Option (List Ty × Nat)
 | [], off => some ([], off)
 | f :: l, off => match rec f.type, fieldsTys P rec l (off + P.cellsOf f.type) with
   | some ts, some (us, n) => if f.offset = off /\ ts.length = P.cellsOf f.type then some (ts ++ us, n) else none
   | _, _ => none
def cellTys (P : Program) : Nat -> TypeId -> Option (List Ty)
 | 0, _ => none
 | fu + 1, t => match P.underlying t with
   | some .bool => some [.bool]
   | some (.int k) => some [.int k]
   | some .string => some [.str]
   | some (.slice e) => match cellTys P fu e with
     | some ts => if ts.length = P.cellsOf e then some [.sl ts] else none
     | none => none
   | some (.struct fs) => match fieldsTys P (cellTys P fu) fs.toList 0 with
     | some (ts, n) => if n = P.cellsOf t then some ts else none
     | none => none
   | some (.array n e) => match cellTys P fu e with
     | some ts => if ts.length = P.cellsOf e /\ P.cellsOf t = n * P.cellsOf e then some (List.replicate n ts).flatten else none
     | none => none
   | _ => none
def rgI : IntKind -> Int -> Prop
 | .u8, n => 0 <= n /\ n <= 255
 | _, _ => True
theorem rgI_wf {k : IntKind} {n : Int} (h : (Lit.int k n).wf = true) : rgI k n := by
 have h1 : (decide (k.min <= n) && decide (n <= k.max)) = true := h
 rw [Bool.and_eq_true, decide_eq_true_eq, decide_eq_true_eq] at h1
 cases k <;> first | trivial | exact ⟨h1.1, h1.2⟩
mutual
def szTy : Ty -> V -> Prop
 | .int k, v => rgI k (iv v)
 | .str, v => (sv v).size <= 9223372036854775807
 | .agg ts, v => szTys ts (cellsV v)
 | .sl ts, v => ∀ i, i < lenV v -> szTys ts (atV v i)
 | _, _ => True
def szTys : List Ty -> List V -> Prop
 | [], _ => True
 | t :: ts, vs => szTy t (hdV vs) /\ szTys ts (tlV vs)
end
mutual
theorem szTy_view : ∀ (t : Ty) (v : V), szTy t v -> szTy t (view t v)
 | .int k, v, h => by simp only [view, szTy, iv] at h ⊢; exact h
 | .bool, _, _ => trivial
 | .str, v, h => by simp only [view, szTy, sv] at h ⊢; exact h
 | .agg ts, v, h => by simp only [view, szTy, cellsV] at h ⊢; exact szTys_views ts _ h
 | .sl ts, v, h => by simp only [view, szTy, lenV, atV] at h ⊢; exact fun i hi => szTys_views ts _ (h i hi)
 | .fn .., _, _ => trivial
 | .pd _, _, _ => trivial
theorem szTys_views : ∀ (ts : List Ty) (vs : List V), szTys ts vs -> szTys ts (views ts vs)
 | [], _, _ => trivial
 | t :: ts, vs, h => by simp only [szTys, views, hdV, tlV] at h ⊢; exact ⟨szTy_view t _ h.1, szTys_views ts _ h.2⟩
end
section
variable {w : World}
theorem szTys_append : ∀ {ts us : List Ty} {vs xs : List V}, hasTys ts vs -> szTys ts vs -> szTys us xs -> szTys (ts ++ us) (vs ++ xs)
 | [], _, _, _, h, _, k => by simp only [hasTys] at h; subst h; simpa using k
 | t :: ts, us, vs, xs, h, hz, k => by
   simp only [hasTys] at h
   rw [h.1]
   simp only [szTys] at hz
   simp only [List.cons_append, szTys, hdV, tlV]
   exact ⟨hz.1, szTys_append h.2.2 hz.2 k⟩
theorem hasTys_append : ∀ {ts us : List Ty} {vs xs : List V}, hasTys ts vs -> hasTys us xs -> hasTys (ts ++ us) (vs ++ xs)
 | [], _, _, _, h, k => by simp only [hasTys] at h; subst h; simpa using k
 | t :: ts, us, vs, xs, h, k => by
   simp only [hasTys] at h
   rw [h.1]
   simp only [List.cons_append, hasTys, hdV, tlV]
   exact ⟨trivial, h.2.1, hasTys_append h.2.2 k⟩
theorem gcells_of {w : World} {a : Addr} : ∀ (n i : Nat) (cs : List Value), (List.range' i n).mapM (fun j => w.cell? (a.add j)) = some cs -> gcells w a i n = some (cs.map ofVal) := by
 intro n
 induction n with
 | zero => intro i cs h; simp at h; subst h; rfl
 | succ n ih =>
   intro i cs h
   simp only [List.range'_succ, List.mapM_cons] at h
   cases hc : w.cell? (a.add i) with
   | none => simp [hc] at h
   | some v =>
     cases hr : (List.range' (i + 1) n).mapM (fun j => w.cell? (a.add j)) with
     | none => simp [hc, hr] at h
     | some l =>
       simp [hc, hr] at h
       subst h
       simp [gcells, hc, ih (i + 1) l hr]
theorem vr_sl_of {a : Addr} {n c esz : Nat} {ts : List Ty} (hn : n <= c) (hc : c <= maxLen) (hcell : ts.all isCellTy = true)
 (h : ∀ i, i < n -> ∃ cs : List Value, gcells w (a.add (i * esz)) 0 esz = some (cs.map ofVal) /\ ∃ vs, vrs w [] Nu.nil vs (cs.map ofVal) /\ (hasTys ts vs /\ szTys ts vs) /\ vs.all V.fc = true) :
 ∃ v, vr w [] Nu.nil v (.slice (some (.g a)) n c) /\ (hasTy (.sl ts) v /\ szTy (.sl ts) v) /\ v.fc = true := by
 classical
 refine ⟨.sl n fun i => if hi : i < n then (Classical.choose (Classical.choose_spec (h i hi)).2) else [], ?_, ?_, rfl⟩
 ·simp only [vr]
  refine ⟨some (.g a), c, esz, rfl, hn, by unfold maxLen at hc; omega, trivial, fun i hi => ?_⟩
  have h1 := Classical.choose_spec (h i hi)
  have h2 := Classical.choose_spec h1.2
  refine ⟨.g a, (Classical.choose (h i hi)).map ofVal, rfl, ?_, ?_, ?_⟩
  ·simp only [Ptr.add, lds]; exact h1.1
  ·simp only [hi, dite_true]; exact h2.1
  ·simp only [hi, dite_true]; exact h2.2.2
 ·simp only [hasTy, szTy, lenV, atV, bndL]
  refine ⟨⟨.inl rfl, hcell, fun i hi => ?_⟩, fun i hi => ?_⟩
  ·simp only [hi, dite_true]
   exact (Classical.choose_spec (Classical.choose_spec (h i hi)).2).2.1.1
  ·simp only [hi, dite_true]
   exact (Classical.choose_spec (Classical.choose_spec (h i hi)).2).2.1.2
end
theorem hasTys_cells : ∀ {ts : List Ty} {vs : List V}, hasTys ts vs -> ts.all isCellTy = true -> vs.all V.fc = true
 | [], vs, h, _ => by simp only [hasTys] at h; subst h; rfl
 | t :: ts, vs, h, ho => by
   simp only [hasTys] at h
   simp only [List.all_cons, Bool.and_eq_true] at ho
   rw [h.1]
   simp only [List.all_cons, Bool.and_eq_true]
   refine ⟨?_, hasTys_cells h.2.2 ho.2⟩
   have h1 := h.2.1
   cases t <;> simp only [hasTy] at h1
   case int => rw [h1]; rfl
   case bool => rcases h1 with h1 | h1 <;> (rw [h1]; rfl)
   case str => rw [h1]; rfl
   case sl => rcases h1.1 with h0 | h0 <;> (rw [h0]; rfl)
   all_goals simp [isCellTy] at ho
section
variable {P : Program}
theorem fieldsTys_cells {rec : TypeId -> Option (List Ty)} (hr : ∀ t ts, rec t = some ts -> ts.all isCellTy = true) : ∀ {fs : List Field} {off n : Nat} {ts : List Ty}, fieldsTys P rec fs off = some (ts, n) -> ts.all isCellTy = true
 | [], off, n, ts, h => by simp [fieldsTys] at h; rw [h.1]; rfl
 | f :: l, off, n, ts, h => by
   simp only [fieldsTys] at h
   split at h
   ·rename_i us vs m h1 h2
    split at h
    ·cases h; rw [List.all_append, hr _ _ h1, fieldsTys_cells hr h2]; rfl
    ·cases h
   ·cases h
theorem cellTys_cells : ∀ {fu : Nat} {t : TypeId} {ts : List Ty}, cellTys P fu t = some ts -> ts.all isCellTy = true
 | 0, _, _, h => by cases h
 | fu + 1, t, ts, h => by
   simp only [cellTys] at h
   split at h
   ·cases h; rfl
   ·cases h; rfl
   ·cases h; rfl
   ·split at h
    ·split at h
     ·cases h; rfl
     ·cases h
    ·cases h
   ·split at h
    ·rename_i us n hf
     split at h
     ·cases h; exact fieldsTys_cells (fun t ts => cellTys_cells (fu := fu)) hf
     ·cases h
    ·cases h
   ·split at h
    ·rename_i us hu
     split at h
     ·cases h
      rw [List.all_eq_true]; intro x hx
      obtain ⟨l, hl, hx⟩ := List.mem_flatten.1 hx
      rw [(List.mem_replicate.1 hl).2] at hx
      exact List.all_eq_true.1 (cellTys_cells hu) x hx
     ·cases h
    ·cases h
   ·cases h
variable {H : Type} {enc : TypeId × Value -> H} {w : World} {base : Nat} {spare : Nat -> Bool} {held : Bool}
theorem fields_trod {rec : TypeId -> Option (List Ty)} {fuel : Nat} (hr : ∀ t ts cs d ps, rec t = some ts -> DataW.trod enc P w base spare held fuel t cs = some (d, ps) -> ∃ vs, vrs w [] Nu.nil vs (cs.map ofVal) /\ hasTys ts vs /\ szTys ts vs) (cs : List Value) :
 ∀ {fs : List Field} {off n : Nat} {ts : List Ty}, fieldsTys P rec fs off = some (ts, n) -> (∀ f ∈ fs, ∃ x, DataW.trod enc P w base spare held fuel f.type ((cs.drop f.offset).take (P.cellsOf f.type)) = some x) -> cs.length = n ->
 ∃ vs, vrs w [] Nu.nil vs ((cs.drop off).map ofVal) /\ hasTys ts vs /\ szTys ts vs
 | [], off, n, ts, h, _, hl => by
   simp [fieldsTys] at h
   obtain ⟨rfl, rfl⟩ := h
   exact ⟨[], by rw [List.drop_eq_nil_of_le (by omega)]; simp [vrs], by simp [hasTys], trivial⟩
 | f :: l, off, n, ts, h, hx, hl => by
   simp only [fieldsTys] at h
   split at h
   ·rename_i us vs m h1 h2
    split at h
    ·rename_i hc
     cases h
     obtain ⟨rfl, hlen⟩ := hc
     obtain ⟨⟨d, ps⟩, ha⟩ := hx f List.mem_cons_self
     obtain ⟨v1, g1, g2, z1⟩ := hr _ _ _ _ _ h1 ha
     obtain ⟨v2, g3, g4, z2⟩ := fields_trod hr cs h2 (fun g hg => hx g (List.mem_cons_of_mem _ hg)) hl
     refine ⟨v1 ++ v2, ?_, hasTys_append g2 g4, szTys_append g2 z1 z2⟩
     have e : cs.drop f.offset = (cs.drop f.offset).take (P.cellsOf f.type) ++ cs.drop (f.offset + P.cellsOf f.type) := by
      rw [← List.drop_drop]; exact (List.take_append_drop _ _).symm
     rw [e, List.map_append]
     exact vrs_append g1 g3
    ·cases h
   ·cases h
theorem array_trod {fuel k : Nat} {e : TypeId} {us : List Ty} (hr : ∀ cs d ps, DataW.trod enc P w base spare held fuel e cs = some (d, ps) -> ∃ vs, vrs w [] Nu.nil vs (cs.map ofVal) /\ hasTys us vs /\ szTys us vs) (cs : List Value) :
 ∀ (n m : Nat), cs.length = (m + n) * k -> (∀ i, m <= i -> i < m + n -> ∃ x, DataW.trod enc P w base spare held fuel e ((cs.drop (i * k)).take k) = some x) -> ∃ vs, vrs w [] Nu.nil vs ((cs.drop (m * k)).map ofVal) /\ hasTys (List.replicate n us).flatten vs /\ szTys (List.replicate n us).flatten vs := by
 intro n
 induction n with
 | zero => intro m hl _; exact ⟨[], by rw [List.drop_eq_nil_of_le (by simp at hl; omega)]; simp [vrs], by simp [hasTys], trivial⟩
 | succ n ih =>
   intro m hl h
   obtain ⟨x, hx⟩ := h m (Nat.le_refl _) (by omega)
   obtain ⟨d, ps⟩ := x
   obtain ⟨v1, g1, g2, z1⟩ := hr _ _ _ hx
   obtain ⟨v2, g3, g4, z2⟩ := ih (m + 1) (by rw [hl]; congr 1; omega) (fun i h1 h2 => h i (by omega) (by omega))
   refine ⟨v1 ++ v2, ?_, by rw [List.replicate_succ, List.flatten_cons]; exact hasTys_append g2 g4, by rw [List.replicate_succ, List.flatten_cons]; exact szTys_append g2 z1 z2⟩
   have e : cs.drop (m * k) = (cs.drop (m * k)).take k ++ cs.drop ((m + 1) * k) := by
    rw [Nat.succ_mul, ← List.drop_drop]; exact (List.take_append_drop _ _).symm
   rw [e, List.map_append]
   exact vrs_append g1 g3
theorem trod_V : ∀ (fuel fu : Nat) (t : TypeId) (ts : List Ty) (cs : List Value) (d : DataW H) (ps : List MemPlace), cellTys P fu t = some ts -> DataW.trod enc P w base spare held fuel t cs = some (d, ps) -> ∃ vs, vrs w [] Nu.nil vs (cs.map ofVal) /\ hasTys ts vs /\ szTys ts vs := by
 intro fuel
 induction fuel with
 | zero => intro fu t ts cs d ps _ h; cases h
 | succ fuel ih =>
   intro fu t ts cs d ps ht h
   cases fu with
   | zero => cases ht
   | succ fu =>
     have hok := cellTys_cells ht
     simp only [cellTys] at ht
     split at ht
     ·rename_i hu
      cases ht
      obtain ⟨b, rfl, _⟩ := DataW.trod_bool hu h
      exact ⟨[.bool b], by simp [vrs, vr, ofVal], by simp [hasTys, hasTy, hdV, tlV, bv], trivial, trivial⟩
     ·rename_i k hu
      cases ht
      obtain ⟨n, rfl, _, hwf⟩ := DataW.trod_int hu h
      exact ⟨[.int k n], by simp [vrs, vr, ofVal], by simp [hasTys, hasTy, hdV, tlV, iv], rgI_wf hwf, trivial⟩
     ·rename_i hu
      cases ht
      obtain ⟨b, rfl, _, hb⟩ := DataW.trod_string hu h
      exact ⟨[.str b], by simp [vrs, vr, ofVal], by simp [hasTys, hasTy, hdV, tlV, sv], (show b.size <= 9223372036854775807 by unfold maxLen at hb; omega), trivial⟩
     ·rename_i e hu
      split at ht
      ·rename_i us hus
       split at ht
       ·rename_i hlen
        cases ht
        have hcell := cellTys_cells hus
        rcases DataW.trod_slice hu h with ⟨rfl, _⟩ | ⟨a, len, cap, elems, rest, n, hn, rfl, _, _, h3, h4, h5, h6, _⟩
        ·exact ⟨[.sl 0 fun _ => []], by simp only [List.map_cons, List.map_nil, ofVal, vrs, vr]; exact ⟨_, _, rfl, ⟨none, 0, 0, rfl, Nat.le_refl _, by omega, trivial, fun i hi => by omega⟩, rfl⟩, by simp only [hasTys, hasTy, hdV, tlV, lenV, bndL]; exact ⟨trivial, ⟨.inl rfl, hcell, fun i hi => by omega⟩, trivial⟩, (fun i hi => by simp [lenV, hdV] at hi), trivial⟩
        ·cases hn
         obtain ⟨v, g1, g2, _⟩ := vr_sl_of (w := w) (a := a) (n := len) (c := cap) (esz := P.cellsOf e) (ts := us) h3 h4 hcell (fun i hi => by
          have h7 := h6 i hi
          rw [List.getElem?_eq_getElem (by omega)] at h7
          cases hcs : w.cells? base (a.add (i * P.cellsOf e)) (P.cellsOf e) with
          | none => rw [hcs] at h7; cases h7
          | some cs' =>
            rw [hcs] at h7
            obtain ⟨vs, g1, g2, z2⟩ := ih fu e us cs' elems[i].1 elems[i].2 hus h7
            unfold World.cells? at hcs
            split at hcs
            ·rw [List.range_eq_range'] at hcs
             exact ⟨cs', gcells_of _ 0 cs' hcs, vs, g1, ⟨g2, z2⟩, hasTys_cells g2 hcell⟩
            ·cases hcs)
         exact ⟨[v], by simp only [List.map_cons, List.map_nil, ofVal, vrs]; exact ⟨_, _, rfl, g1, rfl⟩, by simp only [hasTys, hdV, tlV]; exact ⟨trivial, g2.1, trivial⟩, g2.2, trivial⟩
       ·cases ht
      ·cases ht
     ·rename_i fs hu
      split at ht
      ·rename_i us n hf
       split at ht
       ·rename_i hn
        cases ht
        obtain ⟨xs, m, hm, _, h3, h4, h5⟩ := DataW.trod_struct hu h
        cases hm
        have := fields_trod (off := 0) (fun t ts cs d ps => ih fu t ts cs d ps) cs hf (fun f hf' => by
         obtain ⟨i, hi, rfl⟩ := List.getElem_of_mem hf'
         simp at hi
         have h6 := h5 i fs[i] (by simp [hi])
         rw [List.getElem?_eq_getElem (by omega)] at h6
         exact ⟨_, by simpa using h6⟩) (by rw [h3, hn])
        simpa using this
       ·cases ht
      ·cases ht
     ·rename_i n e hu
      split at ht
      ·rename_i us hus
       split at ht
       ·rename_i hc
        cases ht
        obtain ⟨xs, m, hm, _, h3, h4, h5⟩ := DataW.trod_array hu h
        cases hm
        have := array_trod (k := P.cellsOf e) (fun cs d ps => ih fu e us cs d ps hus) cs n 0 (by rw [h3, hc.2]; simp) (fun i _ hi => by
         have h6 := h5 i (by omega)
         rw [List.getElem?_eq_getElem (by omega)] at h6
         exact ⟨_, h6⟩)
        simpa using this
       ·cases ht
      ·cases ht
     ·cases ht
end
end Go.Dx
namespace Go.Dx
open Go.Sx Go.RowKit
def ofArg : Value -> AVal
 | .agg cs => .agg (cs.toList.map ofVal)
 | v => ofVal v
theorem vrel_ofArg (v : Value) : vrel (fun _ => none) (ofArg v) v := by
 unfold ofArg; split
 ·rename_i cs; simp only [vrel]; exact ⟨cs, rfl, vrels_map_ofVal _ _⟩
 ·exact vrel_ofVal _ _
theorem vrels_ofArg : ∀ vs : List Value, vrels (fun _ => none) (vs.map ofArg) vs
 | [] => by simp [vrels]
 | v :: vs => by simp only [List.map_cons, vrels]; exact ⟨_, _, rfl, vrel_ofArg v, vrels_ofArg vs⟩
def argTy (P : Program) (fu : Nat) (t : TypeId) : Option Ty := match P.underlying t with
 | some (.struct _) => (cellTys P fu t).map .agg
 | some (.array _ _) => (cellTys P fu t).map .agg
 | some (.int k) => some (.int k)
 | some .bool => some .bool
 | _ => none
def argTys (P : Program) (fu : Nat) : List TypeId -> Option (List Ty)
 | [] => some []
 | t :: ts => match argTy P fu t, argTys P fu ts with
   | some x, some xs => some (x :: xs)
   | _, _ => none
section
variable {P : Program} {H : Type} {enc : TypeId × Value -> H} {W : World} {base : Nat}
theorem arg_V {fu : Nat} {t : TypeId} {ty : Ty} {v : Value} {d : DataW H} {ps : List MemPlace} {b : Nat} {spare : Nat -> Bool} {held : Bool} (ht : argTy P fu t = some ty) (hv : Value.okWide P W .any base t v) (h : DataW.Trod enc P W b spare held t v d ps) :
 ∃ x, vr W [] Nu.nil x (ofArg v) /\ hasTy ty x /\ szTy ty x := by
 obtain ⟨fuel, h⟩ := h
 unfold argTy at ht
 unfold Value.okWide at hv
 split at ht
 ·rename_i fs hu
  rw [hu] at hv
  obtain ⟨cs, rfl, _, _⟩ := hv
  simp only [Option.map_eq_some_iff] at ht
  obtain ⟨ts, hts, rfl⟩ := ht
  obtain ⟨vs, g1, g2, z2⟩ := trod_V fuel fu t ts _ d ps hts h
  exact ⟨.agg vs, by simp only [ofArg, vr]; exact ⟨_, rfl, g1⟩, by simp only [hasTy, cellsV]; exact ⟨trivial, g2⟩, z2⟩
 ·rename_i n e hu
  rw [hu] at hv
  obtain ⟨cs, rfl, _, _⟩ := hv
  simp only [Option.map_eq_some_iff] at ht
  obtain ⟨ts, hts, rfl⟩ := ht
  obtain ⟨vs, g1, g2, z2⟩ := trod_V fuel fu t ts _ d ps hts h
  exact ⟨.agg vs, by simp only [ofArg, vr]; exact ⟨_, rfl, g1⟩, by simp only [hasTy, cellsV]; exact ⟨trivial, g2⟩, z2⟩
 ·rename_i k hu
  cases ht
  obtain ⟨n, hc, _, hwf⟩ := DataW.trod_int hu h
  have : v = .int k n := by
   rw [hu] at hv
   unfold Cell.okWide at hv
   rw [hu] at hv
   cases v <;> simp_all [Value.cells, Cell.ok]
  subst this
  exact ⟨.int k n, by simp [ofArg, ofVal, vr], by simp [hasTy, iv], rgI_wf hwf⟩
 ·rename_i hu
  cases ht
  obtain ⟨n, hc, _⟩ := DataW.trod_bool hu h
  have : v = .bool n := by
   rw [hu] at hv
   unfold Cell.okWide at hv
   rw [hu] at hv
   cases v <;> simp_all [Value.cells, Cell.ok]
  subst this
  exact ⟨.bool n, by simp [ofArg, ofVal, vr], by simp [hasTy, bv], trivial⟩
 ·cases ht
theorem args_V {fu : Nat} {b : Nat} {spare : Nat -> Bool} {held : Bool} : ∀ {ts : List TypeId} {tys : List Ty} {vs : List Value} {ds : List (DataW H)} {ps : List MemPlace}, argTys P fu ts = some tys -> (∀ (j : Nat) t v, ts[j]? = some t -> vs[j]? = some v -> Value.okWide P W .any base t v) -> DataW.TrodAll enc P W b spare held ts vs ds ps ->
 ∃ xs, vrs W [] Nu.nil xs (vs.map ofArg) /\ hasTys tys xs /\ szTys tys xs
 | [], tys, [], [], ps, ht, _, h => by simp only [argTys, Option.some.injEq] at ht; subst ht; exact ⟨[], by simp [vrs], by simp [hasTys], trivial⟩
 | t :: ts, tys, v :: vs, d :: ds, ps, ht, hv, h => by
   simp only [argTys] at ht
   split at ht
   ·rename_i x xs hx hxs
    cases ht
    obtain ⟨p, q, h1, h2, _⟩ := h
    obtain ⟨y, g1, g2, z1⟩ := arg_V hx (hv 0 t v rfl rfl) h1
    obtain ⟨ys, g3, g4, z2⟩ := args_V hxs (fun j t v hj hvj => hv (j + 1) t v (by simpa using hj) (by simpa using hvj)) h2
    exact ⟨y :: ys, by simp only [List.map_cons, vrs]; exact ⟨_, _, rfl, g1, g3⟩, by simp only [hasTys, hdV, tlV]; exact ⟨trivial, g2, g4⟩, z1, z2⟩
   ·cases ht
 | [], _, _ :: _, _, _, _, _, h => by simp [DataW.TrodAll] at h
 | [], _, [], _ :: _, _, _, _, h => by simp [DataW.TrodAll] at h
 | _ :: _, _, [], _, _, _, _, h => by simp [DataW.TrodAll] at h
 | _ :: _, _, _ :: _, [], _, _, _, h => by simp [DataW.TrodAll] at h
mutual
theorem view_idem : ∀ (t : Ty) (v : V), view t (view t v) = view t v
 | .int k, v => by simp only [view, iv]
 | .bool, v => by simp only [view, bv]
 | .str, v => by simp only [view, sv]
 | .agg ts, v => by simp only [view, cellsV]; rw [views_idem ts]
 | .sl ts, v => by simp only [view, lenV, atV]; congr 1; funext i; exact views_idem ts _
 | .fn f xs ys, v => by simp only [view, fxs, fys]; rw [views_idem xs, views_idem ys]
 | .pd ts, v => by simp only [view, pdV]; rw [views_idem ts]
theorem views_idem : ∀ (ts : List Ty) (vs : List V), views ts (views ts vs) = views ts vs
 | [], vs => by simp only [views]
 | t :: ts, vs => by simp only [views, hdV, tlV]; rw [view_idem t, views_idem ts]
end
mutual
theorem fx_views : ∀ (t : Ty) (v : V) (k : List V), fxL t (view t v) k = fxR t (view t v) k
 | .int k, v, _ => by simp only [view, fxL, fxR, iv]
 | .bool, v, _ => by simp only [view, fxL, fxR, bv]
 | .str, v, _ => by simp only [view, fxL, fxR, sv]
 | .agg ts, v, k => by simp only [view, fxL, fxR, cellsV]; rw [fxs_views ts]
 | .sl ts, v, k => by
   have := view_idem (.sl ts) v
   simp only [view] at this ⊢
   simp only [fxL, fxR, view, this]
 | .fn f xs ys, v, k => by simp only [view, fxL, fxR, fxs, fys]; rw [fxs_views ys, fxs_views xs]
 | .pd ts, v, k => by simp only [view, fxL, fxR, pdV]; rw [fxs_views ts]
theorem fxs_views : ∀ (ts : List Ty) (vs : List V) (k : List V), fxLs ts (views ts vs) k = fxRs ts (views ts vs) k
 | [], vs, k => by simp only [views, fxLs, fxRs]
 | t :: ts, vs, k => by simp only [views, fxLs, fxRs, hdV, tlV]; rw [fxs_views ts, fx_views t]
end
def lawC (tys : List Ty) : PCon := mkC tys (szTys tys) fun _ => .bool true
theorem law_calls {f : FuncId} {fu b : Nat} {spare : Nat -> Bool} {held : Bool} {tys : List Ty} {ts : List TypeId} {args : Array Value} {ds : List (DataW H)} {ps : List MemPlace} (hOk : (vP (lawC tys)).Ok P f) (ht : argTys P fu ts = some tys)
 (hv : ∀ (j : Nat) t v, ts[j]? = some t -> args[j]? = some v -> Value.okWide P W .any base t v) (hA : DataW.TrodAll enc P W b spare held ts args.toList ds ps) :
 Calls P f args W fun e W' => e = .returned (.bool true) /\ Below W.heap.size W W' := by
 obtain ⟨xs, g1, g2, z2⟩ := args_V (vs := args.toList) ht (fun j t v hj hvj => hv j t v hj (by simpa using hvj)) hA
 obtain ⟨_, hc⟩ := hOk.sound ⟨W, W, fun _ => False, []⟩ (fun _ => none) [] W (args.toList.map ofArg) args.toList (fun r _ => r = .bool true) (HRel.start W) (vrels_ofArg _)
  ⟨views tys xs, _, _, _, views_ok tys xs _ g2 g1, rfl, ⟨fxs_views tys xs [], by rw [(unqs_eq tys _ [] [] (fxs_views tys xs [])).1]; exact szTys_views tys _ (szTys_views tys xs z2)⟩, rfl, rfl⟩
 refine hc.mono fun e w' ⟨v, r, m', lh', he, hr, _, hh, hk⟩ => ?_
 subst hk
 simp only [vrel] at hr
 subst hr
 exact ⟨he, hh.os, hh.tape, hh.output, hh.fsize, hh.old⟩
end
end Go.Dx
namespace Go.Dx
open Go.Sx
inductive Leaf (J : Type) where
 | res (v : V)
 | head (j : J) (e : Env) (h : List O) (g : Option Ex)
structure Lp (J : Type) where
 fr : Nat × Nat
 body : LBody
 k : Ex -> Env -> List O -> Option Ex -> T (Leaf J)
section
variable {α β : Type}
def bindT : T α -> (α -> T β) -> T β
 | .ret a, f => f a
 | .br b x y, f => .br b (bindT x f) (bindT y f)
 | .ob b x, f => .ob b (bindT x f)
 | .obi c d x, f => .obi c d (bindT x f)
 | .obp p x, f => .obp p (bindT x f)
 | .obq a b x, f => .obq a b (bindT x f)
 | .fail n, _ => .fail n
 | .loop fr b e h g k, f => .loop fr b e h g fun x e h g => bindT (k x e h g) f
 | .all t, f => .all fun l => bindT (t l) f
 | .und x y, f => .und (bindT x f) (bindT y f)
 | .asm p x, f => .asm p (bindT x f)
theorem sat_bind {LP : LPred} {Q : β -> Prop} (f : α -> T β) : ∀ t : T α, sat LP (bindT t f) Q = sat LP t fun a => sat LP (f a) Q := by
 intro t
 induction t with
 | ret a => rfl
 | br b x y hx hy => simp only [bindT, sat, hx, hy]
 | ob b x hx => simp only [bindT, sat, hx]
 | obi c d x hx => simp only [bindT, sat, hx]
 | obp p x hx => simp only [bindT, sat, hx]
 | obq a b x hx => simp only [bindT, sat, hx]
 | fail n => rfl
 | loop fr b e h g k hk => simp only [bindT, sat, hk]
 | all t ht => simp only [bindT, sat, ht]
 | und x y hx hy => simp only [bindT, sat, hx, hy]
 | asm p x hx => simp only [bindT, sat, hx]
theorem sat_mono {LP : LPred} (hLP : ∀ fr b e h g (P P' : Ex -> Env -> List O -> Option Ex -> Prop), (∀ x e h g, P x e h g -> P' x e h g) -> LP fr b e h g P -> LP fr b e h g P') {Q Q' : α -> Prop} (hQ : ∀ a, Q a -> Q' a) : ∀ t : T α, sat LP t Q -> sat LP t Q' := by
 intro t
 induction t with
 | ret a => exact hQ a
 | br b x y hx hy => exact fun h => ⟨fun e => hx (h.1 e), fun e => hy (h.2 e)⟩
 | ob b x hx => exact fun h => ⟨h.1, hx h.2⟩
 | obi c d x hx => exact fun h => ⟨h.1, hx h.2⟩
 | obp p x hx => exact fun h => ⟨h.1, hx h.2⟩
 | obq a b x hx => exact fun h => ⟨h.1, hx h.2⟩
 | fail n => exact id
 | loop fr b e h g k hk => exact fun hs => hLP _ _ _ _ _ _ _ (fun x e h g => hk x e h g) hs
 | all t ht => exact fun h l => ht l (h l)
 | und x y hx hy => exact fun h => ⟨hx h.1, hy h.2⟩
 | asm p x hx => exact fun h hp => hx (h hp)
theorem LPof_mono (w0 : World) (S : Specs) : ∀ fr b e h g (P P' : Ex -> Env -> List O -> Option Ex -> Prop), (∀ x e h g, P x e h g -> P' x e h g) -> LPof w0 S fr b e h g P -> LPof w0 S fr b e h g P' := by
 intro fr b e h g P P' hP
 cases b with
 | s body => exact fun hl N nbS ν nV nS sl lh QA h1 h2 h3 h4 => hl N nbS ν nV nS sl lh QA h1 h2 h3 fun ex e' h' ν' sl' lh' nV' nS' g0 g1 g2 g3 => h4 ex e' h' ν' sl' lh' nV' nS' g0 g1 g2 (hP _ _ _ _ g3)
 | i body rd => exact fun hl N N0 ν nV nS sl sl0 lh QA h1 h2 h3 h4 h5 h6 h7 h8 => hl N N0 ν nV nS sl sl0 lh QA h1 h2 h3 h4 h5 h6 h7 fun ex e' h' g' ν' sl' lh' nV' nS' g0 g1 g2 g3 => h8 ex e' h' g' ν' sl' lh' nV' nS' g0 g1 g2 (hP _ _ _ _ g3)
end
mutual
def fitV (ρ : Rho) : V -> V -> V
 | .any, _ => .any
 | .int _ _, .int k a => .int k a
 | .bool _, .bool a => .bool a
 | .bool _, .kb a => .bool a
 | .kb _, .kb a => .kb a
 | .str _, .str a => .str a
 | .agg ys, .agg xs => .agg (fitVs ρ ys xs)
 | .tup ys, .tup xs => .tup (fitVs ρ ys xs)
 | .fn _ us vs, .fn f xs ys => .fn f (fitVs ρ us xs) (fitVs ρ vs ys)
 | .sl _ _, .sl n f => .sl n f
 | .pd _, .pd cs => .pd cs
 | .pl k1 _, .pl k o => match rhoAt ρ k1 with
   | some (some k') => cond (Nat.beq k' k) (.pl k1 o) .any
   | _ => .any
 | .pe k1 _ _, .pe k i j => match rhoAt ρ k1 with
   | some (some k') => cond (Nat.beq k' k) (.pe k1 i j) .any
   | _ => .any
 | .ss k1 _ _ _, .ss k o n c => match rhoAt ρ k1 with
   | some (some k') => cond (Nat.beq k' k) (.ss k1 o n c) .any
   | _ => .any
 | .gs k1 _, .gs k n => match rhoAt ρ k1 with
   | some (some k') => cond (Nat.beq k' k) (.gs k1 n) .any
   | _ => .any
 | .gs k1 _, .ns => match rhoAt ρ k1 with
   | some none => .gs k1 0
   | _ => .any
 | .ns, .ns => .ns
 | .np, .np => .np
 | .yl _, .yl l => .yl l
 | .go k1 _ _, .go k o n => match rhoAt ρ k1 with
   | some (some k') => cond (Nat.beq k' k) (.go k1 o n) .any
   | _ => .any
 | _, _ => .any
def fitVs (ρ : Rho) : List V -> List V -> List V
 | [], [] => []
 | y :: ys, x :: xs => fitV ρ y x :: fitVs ρ ys xs
 | [], _ :: _ => [.any]
 | _ :: _, [] => []
end
section
variable {ρ : Rho}
theorem rhoC {k k' : Nat} {x y : V} (hb : cond (Nat.beq k' k) x V.any = y) (hy : y ≠ V.any) : k' = k /\ x = y := by
 cases hc : Nat.beq k' k with
 | false => rw [hc] at hb; exact (hy hb.symm).elim
 | true => rw [hc] at hb; exact ⟨Nat.eq_of_beq_eq_true hc, hb⟩
mutual
theorem fitV_ok : ∀ (t v : V), fitV ρ t v = t -> subV ρ v t
 | .any, v, _ => by cases v <;> simp [subV]
 | .int k n, v, h => by cases v <;> simp only [fitV] at h <;> cases h <;> simp [subV]
 | .bool b, v, h => by cases v <;> simp only [fitV] at h <;> cases h <;> simp [subV]
 | .kb b, v, h => by cases v <;> simp only [fitV] at h <;> cases h <;> simp [subV]
 | .str b, v, h => by cases v <;> simp only [fitV] at h <;> cases h <;> simp [subV]
 | .agg ys, v, h => by
   cases v <;> simp only [fitV] at h <;> first | (cases h; done) | skip
   simp only [V.agg.injEq] at h; simp only [subV]; exact fitVs_ok ys _ h
 | .tup ys, v, h => by
   cases v <;> simp only [fitV] at h <;> first | (cases h; done) | skip
   simp only [V.tup.injEq] at h; simp only [subV]; exact fitVs_ok ys _ h
 | .fn f us vs, v, h => by
   cases v <;> simp only [fitV] at h <;> first | (cases h; done) | skip
   simp only [V.fn.injEq] at h; simp only [subV]; exact ⟨h.1, fitVs_ok us _ h.2.1, fitVs_ok vs _ h.2.2⟩
 | .sl n f, v, h => by cases v <;> simp only [fitV] at h <;> cases h <;> simp [subV]
 | .pd cs, v, h => by cases v <;> simp only [fitV] at h <;> cases h <;> simp [subV]
 | .pl k1 o1, v, h => by
   cases v <;> simp only [fitV] at h <;> first | (cases h; done) | skip
   split at h
   ·rename_i k' hk
    obtain ⟨rfl, e⟩ := rhoC h (by simp)
    simp only [V.pl.injEq, true_and] at e
    simp only [subV]; exact ⟨hk, e⟩
   ·cases h
 | .pe k1 i1 j1, v, h => by
   cases v <;> simp only [fitV] at h <;> first | (cases h; done) | skip
   split at h
   ·rename_i k' hk
    obtain ⟨rfl, e⟩ := rhoC h (by simp)
    simp only [V.pe.injEq, true_and] at e
    simp only [subV]; exact ⟨hk, e⟩
   ·cases h
 | .ss k1 i1 j1 c1, v, h => by
   cases v <;> simp only [fitV] at h <;> first | (cases h; done) | skip
   split at h
   ·rename_i k' hk
    obtain ⟨rfl, e⟩ := rhoC h (by simp)
    simp only [V.ss.injEq, true_and] at e
    simp only [subV]; exact ⟨hk, e⟩
   ·cases h
 | .gs k1 n1, v, h => by
   cases v <;> simp only [fitV] at h <;> first | (cases h; done) | skip
   ·split at h
    ·rename_i k' hk
     obtain ⟨rfl, e⟩ := rhoC h (by simp)
     simp only [V.gs.injEq, true_and] at e
     simp only [subV]; exact ⟨hk, e⟩
    ·cases h
   ·split at h
    ·rename_i hk
     simp only [V.gs.injEq, true_and] at h
     simp only [subV]; exact ⟨hk, h.symm⟩
    ·cases h
 | .ns, v, h => by cases v <;> simp only [fitV] at h <;> cases h <;> simp [subV]
 | .np, v, h => by cases v <;> simp only [fitV] at h <;> cases h <;> simp [subV]
 | .yl l, v, h => by cases v <;> simp only [fitV] at h <;> cases h <;> simp [subV]
 | .gd b x, v, h => by cases v <;> simp only [fitV] at h <;> cases h
 | .go k1 i1 j1, v, h => by
   cases v <;> simp only [fitV] at h <;> first | (cases h; done) | skip
   split at h
   ·rename_i k' hk
    obtain ⟨rfl, e⟩ := rhoC h (by simp)
    simp only [V.go.injEq, true_and] at e
    simp only [subV]; exact ⟨hk, e⟩
   ·cases h
 | .sq n m f, v, h => by cases v <;> simp only [fitV] at h <;> cases h
theorem fitVs_ok : ∀ (ts vs : List V), fitVs ρ ts vs = ts -> subVs ρ vs ts
 | [], [], _ => by simp [subVs]
 | y :: ys, x :: xs, h => by
   simp only [fitVs, List.cons.injEq] at h
   simp only [subVs]; exact ⟨fitV_ok y x h.1, fitVs_ok ys xs h.2⟩
 | [], _ :: _, h => by simp [fitVs] at h
 | _ :: _, [], h => by simp [fitVs] at h
end
mutual
theorem subV_nil : ∀ (v t : V), subV [] v t -> subV ρ v t
 | .int .., t, h => by cases t <;> simp only [subV] at h ⊢ <;> exact h
 | .bool _, t, h => by cases t <;> simp only [subV] at h ⊢ <;> exact h
 | .kb _, t, h => by cases t <;> simp only [subV] at h ⊢ <;> exact h
 | .str _, t, h => by cases t <;> simp only [subV] at h ⊢ <;> exact h
 | .agg xs, t, h => by cases t <;> simp only [subV] at h ⊢ <;> first | exact subVs_nil _ _ h | exact h
 | .tup xs, t, h => by cases t <;> simp only [subV] at h ⊢ <;> first | exact subVs_nil _ _ h | exact h
 | .fn f xs ys, t, h => by cases t <;> simp only [subV] at h ⊢ <;> first | exact ⟨h.1, subVs_nil _ _ h.2.1, subVs_nil _ _ h.2.2⟩ | exact h
 | .sl .., t, h => by cases t <;> simp only [subV] at h ⊢ <;> exact h
 | .pd .., t, h => by cases t <;> simp only [subV] at h ⊢ <;> exact h
 | .pl .., t, h => by cases t <;> simp only [subV] at h ⊢ <;> first | exact h | (simp [rhoAt, nth] at h)
 | .pe .., t, h => by cases t <;> simp only [subV] at h ⊢ <;> first | exact h | (simp [rhoAt, nth] at h)
 | .ss .., t, h => by cases t <;> simp only [subV] at h ⊢ <;> first | exact h | (simp [rhoAt, nth] at h)
 | .gs .., t, h => by cases t <;> simp only [subV] at h ⊢ <;> first | exact h | (simp [rhoAt, nth] at h)
 | .ns, t, h => by cases t <;> simp only [subV] at h ⊢ <;> first | exact h | (simp [rhoAt, nth] at h)
 | .np, t, h => by cases t <;> simp only [subV] at h ⊢ <;> exact h
 | .any, t, h => by cases t <;> simp only [subV] at h ⊢ <;> exact h
 | .gd .., t, h => by cases t <;> simp only [subV] at h ⊢ <;> exact h
 | .yl _, t, h => by cases t <;> simp only [subV] at h ⊢ <;> exact h
 | .go .., t, h => by cases t <;> simp only [subV] at h ⊢ <;> first | exact h | (simp [rhoAt, nth] at h)
 | .sq .., t, h => by cases t <;> simp only [subV] at h ⊢ <;> exact h
theorem subVs_nil : ∀ (vs ts : List V), subVs [] vs ts -> subVs ρ vs ts
 | [], [], _ => by simp [subVs]
 | v :: vs, t :: ts, h => by simp only [subVs] at h ⊢; exact ⟨subV_nil v t h.1, subVs_nil vs ts h.2⟩
 | [], _ :: _, h => by simp [subVs] at h
 | _ :: _, [], h => by simp [subVs] at h
end
end
def VFok (ts : List Ty) (n : Nat) (f : FnV) : Prop := ∀ i, i < n -> okE (lenL ts) (views ts (f i)) = true /\ subVs [] (f i) (views ts (f i))
structure VF where
 k : Nat
 ts : List Ty
 n : Nat
 f : Nat -> List V
 ok : VFok ts n f
theorem view_one {t : Ty} (h : isCellTy t = true) (v : V) : (view t v).one = true := by cases t <;> first | (simp [isCellTy] at h; done) | (simp only [view]; rfl)
theorem views_one : ∀ {ts : List Ty}, ts.all isCellTy = true -> ∀ vs, (views ts vs).all V.one = true
 | [], _, _ => by simp [views]
 | t :: ts, h, vs => by
   simp only [List.all_cons, Bool.and_eq_true] at h
   simp only [views, List.all_cons, Bool.and_eq_true]; exact ⟨view_one h.1 _, views_one h.2 _⟩
theorem okE_views {ts : List Ty} (h : ts.all isCellTy = true) (vs : List V) : okE (lenL ts) (views ts vs) = true := okE_of (by rw [views_len, lenL_eq]) (views_one h vs)
theorem subV_view {t : Ty} (h : isCellTy t = true) (v : V) : subV [] (view t v) (view t v) := by cases t <;> first | (simp [isCellTy] at h; done) | (simp only [view, subV]; try simp)
theorem subVs_views : ∀ {ts : List Ty}, ts.all isCellTy = true -> ∀ vs, subVs [] (views ts vs) (views ts vs)
 | [], _, _ => by simp [views, subVs]
 | t :: ts, h, vs => by
   simp only [List.all_cons, Bool.and_eq_true] at h
   simp only [views, subVs]; exact ⟨subV_view h.1 _, subVs_views h.2 _⟩
theorem vf_view {ts : List Ty} (h : ts.all isCellTy = true) (n : Nat) (f : FnV) : VFok ts n (elV ts f) := fun i _ => by
 simp only [elV, views_idem]
 exact ⟨okE_views h _, subVs_views h _⟩
theorem vf_join {ts : List Ty} {n m : Nat} {f g : Nat -> List V} (h1 : VFok ts n f) (h2 : VFok ts m g) : VFok ts (n + m) (joinF n f g) := fun i hi => by
 unfold joinF
 by_cases hlt : i < n
 ·have hb : Nat.blt i n = true := Nat.ble_eq_true_of_le hlt
  rw [hb]; exact h1 i hlt
 ·have hb : Nat.blt i n = false := by
   cases hb : Nat.blt i n with
   | false => rfl
   | true => have := Nat.le_of_ble_eq_true hb; omega
  rw [hb]; exact h2 _ (by omega)
theorem vf_const {ts : List Ty} (h : ts.all isCellTy = true) (n : Nat) {ds : List V} (hf : fitVs [] (views ts ds) ds = views ts ds) : VFok ts n fun _ => ds := fun i _ => ⟨okE_views h _, fitVs_ok _ _ hf⟩
theorem vf_set {ts : List Ty} (h : ts.all isCellTy = true) {n j : Nat} {ds : List V} {f : Nat -> List V} (h1 : VFok ts n f) (hf : fitVs [] (views ts ds) ds = views ts ds) : VFok ts n fun i => cond (Nat.beq i j) ds (f i) := fun i hi => by
 show okE _ (views ts (cond (Nat.beq i j) ds (f i))) = true /\ subVs [] (cond (Nat.beq i j) ds (f i)) (views ts (cond (Nat.beq i j) ds (f i)))
 cases Nat.beq i j with
 | true => exact ⟨okE_views h _, fitVs_ok _ _ hf⟩
 | false => exact h1 i hi
def fitAll (ts : List Ty) (f : FnV) : Nat -> List (List V)
 | 0 => []
 | n + 1 => fitVs [] (views ts (f n)) (f n) :: fitAll ts f n
def viewAll (ts : List Ty) (f : FnV) : Nat -> List (List V)
 | 0 => []
 | n + 1 => views ts (f n) :: viewAll ts f n
theorem vf_all {ts : List Ty} (h : ts.all isCellTy = true) {f : Nat -> List V} : ∀ {n : Nat}, fitAll ts f n = viewAll ts f n -> VFok ts n f
 | 0, _ => fun i hi => by omega
 | n + 1, hf => fun i hi => by
   simp only [fitAll, viewAll, List.cons.injEq] at hf
   by_cases e : i = n
   ·subst e; exact ⟨okE_views h _, fitVs_ok _ _ hf.1⟩
   ·exact vf_all h hf.2 i (by omega)
def fitE (ρ : Rho) (e : Env) : Env -> Env
 | [] => []
 | (s, t) :: l => (s, fitV ρ t (getS e s)) :: fitE ρ e l
theorem fitE_ok {ρ : Rho} {e : Env} : ∀ {e1 : Env}, fitE ρ e e1 = e1 -> envSub ρ e e1
 | [], _ => trivial
 | (s, t) :: l, h => by
   simp only [fitE, List.cons.injEq, Prod.mk.injEq, true_and] at h
   exact ⟨fitV_ok _ _ h.1, fitE_ok h.2⟩
def vfAt : List VF -> Nat -> Option VF
 | [], _ => none
 | v :: l, k => cond (Nat.beq k v.k) (some v) (vfAt l k)
def fitO (ρ : Rho) (h : List O) (vf : List VF) (k : Nat) : O -> O
 | .cells cs ty => match rhoAt ρ k with
   | some (some j) => match nth h j with
     | some (.cells ds ty') => .cells (fitVs ρ cs ds) ty'
     | _ => .dead
   | _ => .dead
 | .gl e n f ty => match rhoAt ρ k with
   | some none => .gl e 0 f ty
   | some (some j) => match nth h j with
     | some (.gl e' m g ty') => match vfAt vf k with
       | some v => .gl e' m (elV v.ts g) ty'
       | none => .dead
     | _ => .dead
   | none => .dead
 | .dead => .hid
 | .hid => .hid
def fitH (ρ : Rho) (h : List O) (vf : List VF) : Nat -> List O -> List O
 | _, [] => []
 | k, o :: l => fitO ρ h vf k o :: fitH ρ h vf (k + 1) l
def glsOf (ρ : Rho) (h : List O) : List VF -> List (Nat × Nat × (Nat -> List V))
 | [] => []
 | v :: l => (match rhoAt ρ v.k with
   | some (some j) => match nth h j with
     | some (.gl e m g _) => (e, m, g)
     | _ => (0, 0, fun _ => [])
   | _ => (0, 0, fun _ => [])) :: glsOf ρ h l
def glsTo : List VF -> List (Nat × Nat × (Nat -> List V))
 | [] => []
 | v :: l => (lenL v.ts, v.n, v.f) :: glsTo l
theorem vfAt_gls {ρ : Rho} {h : List O} {k : Nat} {v : VF} : ∀ {vf : List VF}, vfAt vf k = some v -> glsOf ρ h vf = glsTo vf -> v.k = k /\ (match rhoAt ρ v.k with
 | some (some j) => match nth h j with
   | some (.gl e m g _) => (e, m, g)
   | _ => (0, 0, fun _ => [])
 | _ => (0, 0, fun _ => [])) = (lenL v.ts, v.n, v.f)
 | [], h1, _ => by cases h1
 | x :: l, h1, h2 => by
   simp only [glsOf, glsTo, List.cons.injEq] at h2
   simp only [vfAt] at h1
   cases hb : Nat.beq k x.k with
   | true => rw [hb] at h1; cases h1; exact ⟨(Nat.eq_of_beq_eq_true hb).symm, h2.1⟩
   | false => rw [hb] at h1; exact vfAt_gls h1 h2.2
theorem fitO_ok {ρ : Rho} {h : List O} {vf : List VF} {k : Nat} {o : O} (hf : fitO ρ h vf k o = o) (hg : glsOf ρ h vf = glsTo vf) : blkSub ρ h k o := by
 cases o with
 | cells cs ty =>
   simp only [fitO] at hf
   split at hf
   ·rename_i j hj
    split at hf
    ·rename_i ds ty' hn
     simp only [O.cells.injEq] at hf
     exact ⟨j, ds, hj, by rw [hn, hf.2], fitVs_ok _ _ hf.1⟩
    ·cases hf
   ·cases hf
 | gl e n f ty =>
   simp only [fitO] at hf
   split at hf
   ·rename_i hj
    simp only [O.gl.injEq, true_and, and_true] at hf
    exact .inl ⟨hj, hf.symm⟩
   ·rename_i j hj
    split at hf
    ·rename_i e' m g ty' hn
     split at hf
     ·rename_i v hv
      obtain ⟨rfl, h2⟩ := vfAt_gls hv hg
      rw [hj] at h2
      simp only [hn, Prod.mk.injEq] at h2
      simp only [O.gl.injEq] at hf
      obtain ⟨rfl, rfl, rfl, rfl⟩ := hf
      obtain ⟨h3, h4, h5⟩ := h2
      refine .inr ⟨j, m, g, hj, hn, Nat.le_refl _, fun i hi => ?_⟩
      have := v.ok i (by rw [← h4]; exact hi)
      rw [← h5, ← h3] at this
      exact ⟨this.1, subVs_nil _ _ this.2⟩
     ·cases hf
    ·cases hf
   ·cases hf
 | dead => simp only [fitO] at hf; cases hf
 | hid => trivial
theorem fitH_ok {ρ : Rho} {h : List O} {vf : List VF} (hg : glsOf ρ h vf = glsTo vf) : ∀ {l : List O} {k : Nat}, fitH ρ h vf k l = l -> heapSub ρ h k l
 | [], _, _ => trivial
 | o :: l, k, hf => by
   simp only [fitH, List.cons.injEq] at hf
   exact ⟨fitO_ok hf.1 hg, fitH_ok hg hf.2⟩
def rhoOk (ρ : Rho) (nb : Nat) (h1 : List O) : Bool := Nat.beq (lenL ρ) (lenL h1) && (injR ρ && idTo ρ nb)
theorem fit_sub (w0 : World) {ρ : Rho} {nb : Nat} {e e1 : Env} {h h1 : List O} {vf : List VF} (h0 : rhoOk ρ nb h1 = true) (he : fitE ρ e e1 = e1) (hh : fitH ρ h vf 0 h1 = h1) (hg : glsOf ρ h vf = glsTo vf) : SubV w0 nb e h e1 h1 := by
 unfold rhoOk at h0
 simp only [Bool.and_eq_true] at h0
 exact SubV.ren w0 ρ h0.1 h0.2.1 h0.2.2 (fitE_ok he) (fitH_ok hg hh)
inductive RT (S : Type) where
 | ret (v : V)
 | next (ρ : Rho) (s : S) (vf : List VF)
 | enter (ρ : Rho) (s : S) (vf : List VF)
 | br (b : Bool) (x y : RT S)
 | brt (x : RT S)
 | brf (y : RT S)
 | brx (b : Bool) (x : RT S)
 | bry (b : Bool) (y : RT S)
 | ob (b : Bool) (x : RT S)
 | obt (x : RT S)
 | obv (b : Bool) (h : b = true) (x : RT S)
 | obi (x : RT S)
 | obj (c b : Bool) (x : RT S)
 | obc (x : RT S)
 | obp (p : Prop) (x : RT S)
 | und (x y : RT S)
 | asm (p : Prop) (x : RT S)
 | all (f : Nat -> RT S)
 | fail
structure LD (J S : Type) where
 id : S -> J
 lp : J -> Lp J
 inv : S -> Env × List O × Option Ex
inductive FT (J : Type) where
 | res (v : V)
 | head (j : J) (g : Option Ex) (ok : Bool) (e : Env) (h : List O) (vs : List (Nat × Nat × (Nat -> List V)))
 | loop (fr : Nat × Nat) (b : LBody) (k : Ex -> Env -> List O -> Option Ex -> T (Leaf J)) (g : Option Ex) (ok : Bool) (e : Env) (h : List O) (vs : List (Nat × Nat × (Nat -> List V)))
 | br (b : Bool) (x y : FT J)
 | brt (b : Bool) (x : FT J)
 | brf (b : Bool) (y : FT J)
 | brx (b : Bool) (x : FT J)
 | bry (b : Bool) (y : FT J)
 | ob (b : Bool) (x : FT J)
 | obt (b : Bool) (x : FT J)
 | obi (x : FT J)
 | obj (c b : Bool) (x : FT J)
 | obp (p : Prop) (x : FT J)
 | und (x y : FT J)
 | asm (p : Prop) (x : FT J)
 | all (f : Nat -> FT J)
 | fail (n : Nat)
section
variable {J S : Type}
def fitT (D : LD J S) : T (Leaf J) -> RT S -> FT J
 | .ret (.res v), .ret _ => .res v
 | .ret (.head j e h g), .next ρ s vf => .head j g (rhoOk ρ (D.lp j).fr.2 (D.inv s).2.1) (fitE ρ e (D.inv s).1) (fitH ρ h vf 0 (D.inv s).2.1) (glsOf ρ h vf)
 | .loop fr b e h g k, .enter ρ s vf => .loop fr b k g (rhoOk ρ fr.2 (D.inv s).2.1) (fitE ρ e (D.inv s).1) (fitH ρ h vf 0 (D.inv s).2.1) (glsOf ρ h vf)
 | .br b x y, .br _ x' y' => .br b (fitT D x x') (fitT D y y')
 | .br b x _, .brt x' => .brt b (fitT D x x')
 | .br b _ y, .brf y' => .brf b (fitT D y y')
 | .br b x _, .brx _ x' => .brx b (fitT D x x')
 | .br b _ y, .bry _ y' => .bry b (fitT D y y')
 | .ob b x, .ob _ x' => .ob b (fitT D x x')
 | .ob b x, .obt x' => .obt b (fitT D x x')
 | .ob b x, .obv _ _ x' => .ob b (fitT D x x')
 | .obp p x, .obc x' => .obp p (fitT D x x')
 | .obi _ d x, .obt x' => .obt d (fitT D x x')
 | .obi _ d x, .ob _ x' => .ob d (fitT D x x')
 | .obi _ d x, .obv _ _ x' => .ob d (fitT D x x')
 | .obi _ _ x, .obi x' => .obi (fitT D x x')
 | .obi c d x, .obj _ _ x' => .obj c d (fitT D x x')
 | .obp p x, .obp _ x' => .obp p (fitT D x x')
 | .obq _ _ x, t => fitT D x t
 | .und x y, .und x' y' => .und (fitT D x x') (fitT D y y')
 | .asm p x, .asm _ x' => .asm p (fitT D x x')
 | .all f, .all g => .all fun l => fitT D (f l) (g l)
 | .fail _, .fail => .fail 1
 | _, _ => .fail 0
def sameT : T (Leaf J) -> RT S -> T (Leaf J)
 | .br b x y, .br _ x' y' => .br b (sameT x x') (sameT y y')
 | .br b x y, .brt x' => .br b (sameT x x') y
 | .br b x y, .brf y' => .br b x (sameT y y')
 | .br b x y, .brx _ x' => .br b (sameT x x') y
 | .br b x y, .bry _ y' => .br b x (sameT y y')
 | .ob b x, .ob _ x' => .ob b (sameT x x')
 | .ob b x, .obt x' => .ob b (sameT x x')
 | .ob b x, .obv _ _ x' => .ob b (sameT x x')
 | .obp p x, .obp _ x' => .obp p (sameT x x')
 | .obp p x, .obc x' => .obp p (sameT x x')
 | .obi c d x, .obt x' => .obi c d (sameT x x')
 | .obi c d x, .ob _ x' => .obi c d (sameT x x')
 | .obi c d x, .obv _ _ x' => .obi c d (sameT x x')
 | .obi c _ x, .obi x' => .obi c c (sameT x x')
 | .obi c d x, .obj _ _ x' => .obi c d (sameT x x')
 | .obq a _ x, t => .obq a a (sameT x t)
 | .und x y, .und x' y' => .und (sameT x x') (sameT y y')
 | .asm p x, .asm _ x' => .asm p (sameT x x')
 | .all f, .all g => .all fun l => sameT (f l) (g l)
 | t, _ => t
def toF (D : LD J S) : RT S -> FT J
 | .ret v => .res v
 | .next _ s vf => .head (D.id s) (D.inv s).2.2 true (D.inv s).1 (D.inv s).2.1 (glsTo vf)
 | .enter _ s vf => .loop (D.lp (D.id s)).fr (D.lp (D.id s)).body (D.lp (D.id s)).k (D.inv s).2.2 true (D.inv s).1 (D.inv s).2.1 (glsTo vf)
 | .br b x y => .br b (toF D x) (toF D y)
 | .brt x => .brt true (toF D x)
 | .brf y => .brf false (toF D y)
 | .brx b x => .brx b (toF D x)
 | .bry b y => .bry b (toF D y)
 | .ob b x => .ob b (toF D x)
 | .obt x => .obt true (toF D x)
 | .obv b _ x => .ob b (toF D x)
 | .obi x => .obi (toF D x)
 | .obj c b x => .obj c b (toF D x)
 | .obc x => .obp True (toF D x)
 | .obp p x => .obp p (toF D x)
 | .und x y => .und (toF D x) (toF D y)
 | .asm p x => .asm p (toF D x)
 | .all f => .all fun l => toF D (f l)
 | .fail => .fail 1
def evR (Nx : S -> V -> Prop) : RT S -> V -> Prop
 | .ret v, r => toA v = toA r
 | .next _ s _, r => Nx s r
 | .enter _ s _, r => Nx s r
 | .br b x y, r => (b = true -> evR Nx x r) /\ (b = false -> evR Nx y r)
 | .brt x, r => evR Nx x r
 | .brf y, r => evR Nx y r
 | .brx b x, r => b = true /\ evR Nx x r
 | .bry b y, r => b = false /\ evR Nx y r
 | .ob b x, r => b = true /\ evR Nx x r
 | .obt x, r => evR Nx x r
 | .obv _ _ x, r => evR Nx x r
 | .obi x, r => evR Nx x r
 | .obj c b x, r => (c = true -> b = true) /\ evR Nx x r
 | .obc x, r => evR Nx x r
 | .obp p x, r => p /\ evR Nx x r
 | .und x y, r => evR Nx x r /\ evR Nx y r
 | .asm p x, r => p -> evR Nx x r
 | .all f, r => ∀ l, evR Nx (f l) r
 | .fail, _ => False
def EvN (step : S -> RT S) : Nat -> S -> V -> Prop
 | 0, _, _ => False
 | n + 1, s, r => evR (EvN step n) (step s) r
def Ev (step : S -> RT S) (s : S) (r : V) : Prop := ∃ n, EvN step n s r
theorem evR_mono {Nx Ny : S -> V -> Prop} {r : V} (h : ∀ s, Nx s r -> Ny s r) : ∀ t : RT S, evR Nx t r -> evR Ny t r := by
 intro t
 induction t with
 | ret v => exact id
 | next ρ s vf => exact h s
 | enter ρ s vf => exact h s
 | br b x y hx hy => exact fun k => ⟨fun e => hx (k.1 e), fun e => hy (k.2 e)⟩
 | brt x hx => exact hx
 | brf y hy => exact hy
 | brx b x hx => exact fun k => ⟨k.1, hx k.2⟩
 | bry b y hy => exact fun k => ⟨k.1, hy k.2⟩
 | ob b x hx => exact fun k => ⟨k.1, hx k.2⟩
 | obt x hx => exact hx
 | obv b h x hx => exact hx
 | obi x hx => exact hx
 | obj c b x hx => exact fun k => ⟨k.1, hx k.2⟩
 | obc x hx => exact hx
 | obp p x hx => exact fun k => ⟨k.1, hx k.2⟩
 | und x y hx hy => exact fun k => ⟨hx k.1, hy k.2⟩
 | asm p x hx => exact fun k hp => hx (k hp)
 | all f hf => exact fun k l => hf l (k l)
 | fail => exact id
theorem EvN_succ {step : S -> RT S} {r : V} : ∀ {n : Nat} {s : S}, EvN step n s r -> EvN step (n + 1) s r
 | 0, s, h => h.elim
 | n + 1, s, h => evR_mono (fun s hs => EvN_succ hs) _ h
theorem EvN_mono {step : S -> RT S} {r : V} {n m : Nat} {s : S} (h : EvN step n s r) (hm : n <= m) : EvN step m s r := by
 induction hm with
 | refl => exact h
 | step _ ih => exact EvN_succ ih
section
variable {Nx : S -> V -> Prop} {r : V}
theorem evRet {v : V} (h : toA v = toA r) : evR Nx (.ret v) r := h
theorem evBr {b : Bool} {x y : RT S} (h1 : b = true -> evR Nx x r) (h2 : b = false -> evR Nx y r) : evR Nx (.br b x y) r := ⟨h1, h2⟩
theorem evBrt {x : RT S} (h : evR Nx x r) : evR Nx (.brt x) r := h
theorem evBrf {x : RT S} (h : evR Nx x r) : evR Nx (.brf x) r := h
theorem ntT {b : Bool} (h : b = false) : (!b) = true := by rw [h]; rfl
theorem ntF {b : Bool} (h : b = true) : (!b) = false := by rw [h]; rfl
theorem tnT {b : Bool} (h : (!b) = false) : b = true := by cases b; cases h; rfl
theorem evOb {b : Bool} {x : RT S} (h1 : b = true) (h2 : evR Nx x r) : evR Nx (.ob b x) r := ⟨h1, h2⟩
theorem evObt {x : RT S} (h : evR Nx x r) : evR Nx (.obt x) r := h
theorem evObv {b : Bool} {hb : b = true} {x : RT S} (h : evR Nx x r) : evR Nx (.obv b hb x) r := h
theorem evObi {x : RT S} (h : evR Nx x r) : evR Nx (.obi x) r := h
theorem evObj {c b : Bool} {x : RT S} (h1 : c = true -> b = true) (h2 : evR Nx x r) : evR Nx (.obj c b x) r := ⟨h1, h2⟩
theorem evObc {x : RT S} (h : evR Nx x r) : evR Nx (.obc x) r := h
theorem evObp {p : Prop} {x : RT S} (h1 : p) (h2 : evR Nx x r) : evR Nx (.obp p x) r := ⟨h1, h2⟩
theorem evUnd {x y : RT S} (h1 : evR Nx x r) (h2 : evR Nx y r) : evR Nx (.und x y) r := ⟨h1, h2⟩
theorem evAsm {p : Prop} {x : RT S} (h : p -> evR Nx x r) : evR Nx (.asm p x) r := h
theorem evAsm1 {p : Prop} {x : RT S} (h : p -> evR Nx x r) : evR Nx (.asm (true = true -> p) x) r := fun k => h (k rfl)
theorem evAll {f : Nat -> RT S} (h : ∀ l, evR Nx (f l) r) : evR Nx (.all f) r := h
theorem evEnter {ρ : Rho} {s : S} {vf : List VF} (h : Nx s r) : evR Nx (.enter ρ s vf) r := h
theorem evNext {ρ : Rho} {s : S} {vf : List VF} (h : Nx s r) : evR Nx (.next ρ s vf) r := h
end
def noAll : RT S -> Bool
 | .br _ x y => noAll x && noAll y
 | .brt x => noAll x
 | .brf y => noAll y
 | .brx _ x => noAll x
 | .bry _ y => noAll y
 | .ob _ x => noAll x
 | .obt x => noAll x
 | .obv _ _ x => noAll x
 | .obi x => noAll x
 | .obj _ _ x => noAll x
 | .obc x => noAll x
 | .obp _ x => noAll x
 | .und x y => noAll x && noAll y
 | .asm _ x => noAll x
 | .all _ => false
 | _ => true
theorem evR_ex {step : S -> RT S} {r : V} : ∀ t : RT S, noAll t = true -> evR (Ev step) t r -> ∃ n, evR (EvN step n) t r := by
 intro t
 induction t with
 | ret v => exact fun _ h => ⟨0, h⟩
 | next ρ s vf => exact fun _ ⟨n, h⟩ => ⟨n, h⟩
 | enter ρ s vf => exact fun _ ⟨n, h⟩ => ⟨n, h⟩
 | br b x y hx hy =>
   intro h0 h
   simp only [noAll, Bool.and_eq_true] at h0
   cases b with
   | true => obtain ⟨n, hn⟩ := hx h0.1 (h.1 rfl); exact ⟨n, fun _ => hn, fun e => by cases e⟩
   | false => obtain ⟨n, hn⟩ := hy h0.2 (h.2 rfl); exact ⟨n, (fun e => by cases e), fun _ => hn⟩
 | brt x hx => exact fun h0 h => hx h0 h
 | brf y hy => exact fun h0 h => hy h0 h
 | brx b x hx => exact fun h0 h => let ⟨n, hn⟩ := hx h0 h.2; ⟨n, h.1, hn⟩
 | bry b y hy => exact fun h0 h => let ⟨n, hn⟩ := hy h0 h.2; ⟨n, h.1, hn⟩
 | ob b x hx => exact fun h0 h => let ⟨n, hn⟩ := hx h0 h.2; ⟨n, h.1, hn⟩
 | obt x hx => exact fun h0 h => hx h0 h
 | obv b h x hx => exact fun h0 h => hx h0 h
 | obi x hx => exact fun h0 h => hx h0 h
 | obj c b x hx => exact fun h0 h => let ⟨n, hn⟩ := hx h0 h.2; ⟨n, h.1, hn⟩
 | obc x hx => exact fun h0 h => hx h0 h
 | obp p x hx => exact fun h0 h => let ⟨n, hn⟩ := hx h0 h.2; ⟨n, h.1, hn⟩
 | und x y hx hy =>
   intro h0 h
   simp only [noAll, Bool.and_eq_true] at h0
   obtain ⟨n, hn⟩ := hx h0.1 h.1
   obtain ⟨m, hm⟩ := hy h0.2 h.2
   exact ⟨max n m, evR_mono (fun s hs => EvN_mono hs (Nat.le_max_left _ _)) _ hn, evR_mono (fun s hs => EvN_mono hs (Nat.le_max_right _ _)) _ hm⟩
 | asm p x hx =>
   intro h0 h
   by_cases hp : p
   ·obtain ⟨n, hn⟩ := hx h0 (h hp); exact ⟨n, fun _ => hn⟩
   ·exact ⟨0, fun k => (hp k).elim⟩
 | all f hf => intro h0; cases h0
 | fail => exact fun _ h => h.elim
theorem Ev.of {step : S -> RT S} {s : S} {r : V} (h0 : noAll (step s) = true) (h : evR (Ev step) (step s) r) : Ev step s r :=
 let ⟨n, hn⟩ := evR_ex _ h0 h; ⟨n + 1, hn⟩
theorem fit_sat {w0 : World} {LP : LPred} {D : LD J S} {Q : Leaf J -> Prop} {Nx : S -> V -> Prop} {r : V} (hres : ∀ v, toA v = toA r -> Q (.res v))
 (hhead : ∀ s e h, Nx s r -> SubV w0 (D.lp (D.id s)).fr.2 e h (D.inv s).1 (D.inv s).2.1 -> Q (.head (D.id s) e h (D.inv s).2.2))
 (hloop : ∀ s e h, Nx s r -> SubV w0 (D.lp (D.id s)).fr.2 e h (D.inv s).1 (D.inv s).2.1 -> LP (D.lp (D.id s)).fr (D.lp (D.id s)).body e h (D.inv s).2.2 fun x e h g => sat LP ((D.lp (D.id s)).k x e h g) Q) :
 ∀ (t : T (Leaf J)) (rt : RT S), fitT D t rt = toF D rt -> sameT t rt = t -> evR Nx rt r -> sat LP t Q := by
 intro t
 induction t with
 | ret a =>
   intro rt hf _ hr
   cases a with
   | res v => cases rt <;> simp only [fitT, toF] at hf <;> cases hf; exact hres _ hr
   | head j e h g =>
     cases rt <;> simp only [fitT, toF] at hf <;> first | (cases hf; done) | skip
     simp only [FT.head.injEq] at hf
     obtain ⟨rfl, rfl, h1, h2, h3, h4⟩ := hf
     exact hhead _ e h hr (fit_sub w0 h1 h2 h3 h4)
 | br b x y hx hy =>
   intro rt hf hs hr
   cases rt <;> simp only [fitT, toF] at hf <;> first | (cases hf; done) | skip
   ·simp only [FT.br.injEq] at hf
    simp only [sameT, T.br.injEq, true_and] at hs
    obtain ⟨rfl, h1, h2⟩ := hf
    exact ⟨fun e => hx _ h1 hs.1 (hr.1 e), fun e => hy _ h2 hs.2 (hr.2 e)⟩
   ·simp only [FT.brt.injEq] at hf
    simp only [sameT, T.br.injEq, true_and] at hs
    obtain ⟨rfl, h1⟩ := hf
    exact ⟨fun e => hx _ h1 hs.1 hr, fun e => by cases e⟩
   ·simp only [FT.brf.injEq] at hf
    simp only [sameT, T.br.injEq, true_and] at hs
    obtain ⟨rfl, h1⟩ := hf
    exact ⟨(fun e => by cases e), fun e => hy _ h1 hs hr⟩
   ·simp only [FT.brx.injEq] at hf
    simp only [sameT, T.br.injEq, true_and] at hs
    obtain ⟨rfl, h1⟩ := hf
    exact ⟨fun e => hx _ h1 hs.1 hr.2, fun e => by rw [hr.1] at e; cases e⟩
   ·simp only [FT.bry.injEq] at hf
    simp only [sameT, T.br.injEq, true_and] at hs
    obtain ⟨rfl, h1⟩ := hf
    exact ⟨(fun e => by rw [hr.1] at e; cases e), fun e => hy _ h1 hs hr.2⟩
 | ob b x hx =>
   intro rt hf hs hr
   cases rt <;> simp only [fitT, toF] at hf <;> first | (cases hf; done) | skip
   ·simp only [FT.ob.injEq] at hf
    simp only [sameT, T.ob.injEq, true_and] at hs
    obtain ⟨rfl, h1⟩ := hf
    exact ⟨hr.1, hx _ h1 hs hr.2⟩
   ·simp only [FT.obt.injEq] at hf
    simp only [sameT, T.ob.injEq, true_and] at hs
    obtain ⟨rfl, h1⟩ := hf
    exact ⟨rfl, hx _ h1 hs hr⟩
   ·rename_i b' hb' x'
    simp only [FT.ob.injEq] at hf
    simp only [sameT, T.ob.injEq, true_and] at hs
    obtain ⟨rfl, h1⟩ := hf
    exact ⟨hb', hx _ h1 hs hr⟩
 | obp p x hx =>
   intro rt hf hs hr
   cases rt <;> simp only [fitT, toF] at hf <;> first | (cases hf; done) | skip
   ·simp only [FT.obp.injEq] at hf
    simp only [sameT, T.obp.injEq, true_and] at hs
    obtain ⟨rfl, h1⟩ := hf
    exact ⟨trivial, hx _ h1 hs hr⟩
   ·simp only [FT.obp.injEq] at hf
    simp only [sameT, T.obp.injEq, true_and] at hs
    obtain ⟨rfl, h1⟩ := hf
    exact ⟨hr.1, hx _ h1 hs hr.2⟩
 | obi c d x hx =>
   intro rt hf hs hr
   cases rt <;> simp only [fitT, toF] at hf <;> first | (cases hf; done) | skip
   ·simp only [FT.ob.injEq] at hf
    simp only [sameT, T.obi.injEq, true_and] at hs
    obtain ⟨rfl, h1⟩ := hf
    exact ⟨fun _ => hr.1, hx _ h1 hs hr.2⟩
   ·simp only [FT.obt.injEq] at hf
    simp only [sameT, T.obi.injEq, true_and] at hs
    obtain ⟨rfl, h1⟩ := hf
    exact ⟨fun _ => rfl, hx _ h1 hs hr⟩
   ·rename_i b' hb' x'
    simp only [FT.ob.injEq] at hf
    simp only [sameT, T.obi.injEq, true_and] at hs
    obtain ⟨rfl, h1⟩ := hf
    exact ⟨fun _ => hb', hx _ h1 hs hr⟩
   ·simp only [FT.obi.injEq] at hf
    simp only [sameT, T.obi.injEq, true_and] at hs
    obtain ⟨h0, h1⟩ := hs
    subst h0
    exact ⟨id, hx _ hf h1 hr⟩
   ·simp only [FT.obj.injEq] at hf
    simp only [sameT, T.obi.injEq, true_and] at hs
    obtain ⟨rfl, rfl, h1⟩ := hf
    exact ⟨hr.1, hx _ h1 hs hr.2⟩
 | obq a b x hx =>
   intro rt hf hs hr
   simp only [sameT, T.obq.injEq, true_and] at hs
   simp only [fitT] at hf
   exact ⟨hs.1, hx _ hf hs.2 hr⟩
 | fail n =>
   intro rt hf hs hr
   cases rt <;> simp only [fitT, toF] at hf <;> first | (cases hf; done) | exact hr.elim
 | loop fr b e h g k hk =>
   intro rt hf hs hr
   cases rt <;> simp only [fitT, toF] at hf <;> first | (cases hf; done) | skip
   simp only [FT.loop.injEq] at hf
   obtain ⟨rfl, rfl, rfl, rfl, h1, h2, h3, h4⟩ := hf
   exact hloop _ e h hr (fit_sub w0 h1 h2 h3 h4)
 | all f hf0 =>
   intro rt hf hs hr
   cases rt <;> simp only [fitT, toF] at hf <;> first | (cases hf; done) | skip
   simp only [FT.all.injEq] at hf
   simp only [sameT, T.all.injEq] at hs
   exact fun l => hf0 l _ (congrFun hf l) (congrFun hs l) (hr l)
 | und x y hx hy =>
   intro rt hf hs hr
   cases rt <;> simp only [fitT, toF] at hf <;> first | (cases hf; done) | skip
   simp only [FT.und.injEq] at hf
   simp only [sameT, T.und.injEq] at hs
   exact ⟨hx _ hf.1 hs.1 hr.1, hy _ hf.2 hs.2 hr.2⟩
 | asm p x hx =>
   intro rt hf hs hr
   cases rt <;> simp only [fitT, toF] at hf <;> first | (cases hf; done) | skip
   simp only [FT.asm.injEq] at hf
   simp only [sameT, T.asm.injEq, true_and] at hs
   obtain ⟨rfl, h1⟩ := hf
   exact fun hp => hx _ h1 hs (hr hp)
def rdT (ct : CTab) (un : Unr) (j : J) (l : Lp J) (e : Env) (h : List O) (g : Option Ex) : T (Leaf J) :=
 match l.body with
 | .s body => bindT (evC (cfOf ct l.fr.1) (cpOf ct) un l.fr 0 body e h fun x e h => .ret (x, e, h)) fun r => match r.1 with
   | .normal => .ret (.head j r.2.1 r.2.2 none)
   | x => l.k x r.2.1 r.2.2 none
 | .i body rd => bindT (evIt (cfOf ct l.fr.1) (cpOf ct) un l.fr rd (rdY (cfOf ct l.fr.1) (cpOf ct) un l.fr.1 0 rd) 0 body e h g fun x e h g => .ret (x, e, h, g)) fun r => match r.1 with
   | .normal => .ret (.head j r.2.1 r.2.2.1 r.2.2.2)
   | x => l.k x r.2.1 r.2.2.1 r.2.2.2
def rdS (ct : CTab) (un : Unr) (D : LD J S) (s : S) : T (Leaf J) := rdT ct un (D.id s) (D.lp (D.id s)) (D.inv s).1 (D.inv s).2.1 (D.inv s).2.2
def QN (w0 : World) (D : LD J S) (step : S -> RT S) (r : V) (n : Nat) : Leaf J -> Prop
 | .res v => toA v = toA r
 | .head j e h g => ∃ s, D.id s = j /\ (D.inv s).2.2 = g /\ SubV w0 (D.lp (D.id s)).fr.2 e h (D.inv s).1 (D.inv s).2.1 /\ EvN step n s r
theorem QN_mono {w0 : World} {D : LD J S} {step : S -> RT S} {r : V} {n m : Nat} (hm : n <= m) : ∀ a, QN w0 D step r n a -> QN w0 D step r m a
 | .res v, h => h
 | .head j e h g, ⟨s, h1, h2, h3, h4⟩ => ⟨s, h1, h2, h3, EvN_mono h4 hm⟩
theorem LPof_s {w0 : World} {S : Specs} {fr : Nat × Nat} {body : SCode} {e : Env} {h : List O} {g : Option Ex} {P : Ex -> Env -> List O -> Option Ex -> Prop} (hl : LPof w0 S (fr.1, fr.2) (.s body) e h none P) : LPof w0 S fr (.s body) e h g P := hl
theorem loopN {ct : CTab} {un : Unr} {w0 : World} (hd : dstT ct = true) {D : LD J S} {step : S -> RT S} {r : V} (hs : ∀ s, fitT D (rdS ct un D s) (step s) = toF D (step s)) (hq : ∀ s, sameT (rdS ct un D s) (step s) = rdS ct un D s) :
 ∀ (n : Nat) (s : S) (e : Env) (h : List O), EvN step n s r -> SubV w0 (D.lp (D.id s)).fr.2 e h (D.inv s).1 (D.inv s).2.1 ->
 LPof w0 (SV ct) (D.lp (D.id s)).fr (D.lp (D.id s)).body e h (D.inv s).2.2 fun x e h g => sat (LPof w0 (SV ct)) ((D.lp (D.id s)).k x e h g) (QN w0 D step r n) := by
 intro n
 induction n using Nat.strongRecOn with
 | ind n ih =>
   intro s e h hn hsub
   have key : ∀ (p : Nat) (s' : S), p <= n -> EvN step p s' r -> ∃ m, p = m + 1 /\ sat (LPof w0 (SV ct)) (rdS ct un D s') (QN w0 D step r m) := by
    intro p s' hp he
    match p, hp, he with
    | 0, _, he => exact he.elim
    | m + 1, hp, he =>
      exact ⟨m, rfl, fit_sat (w0 := w0) (Nx := EvN step m) (fun v hv => hv) (fun s e h h1 h2 => ⟨s, rfl, rfl, h2, h1⟩) (fun s e h h1 h2 => ih m (by omega) s e h h1 h2) _ _ (hs s') (hq s') he⟩
   generalize hj : D.id s = j at *
   match hb : (D.lp j).body with
   | .s body =>
     refine LPof_s (lp_ok (un := un) hd 0 {p : Nat × S // p.1 <= n /\ EvN step p.1 p.2 r /\ D.id p.2 = j} (fun p => ((D.inv p.1.2).1, (D.inv p.1.2).2.1)) (fun p => p.1.1) ⟨⟨(n, s), Nat.le_refl _, hn, hj⟩, hsub⟩ ?_)
     rintro ⟨⟨p, s'⟩, hp, he, hj'⟩
     obtain ⟨m, hpm, hk⟩ := key p s' hp he
     simp only at hj' hp hpm
     unfold rdS rdT at hk
     rw [hj', hb] at hk
     simp only [sat_bind] at hk
     refine sat_mono (LPof_mono _ _) (fun a ha => ?_) _ hk
     obtain ⟨x, e', h'⟩ := a
     cases x with
     | normal =>
       obtain ⟨s2, g1, g2, g3, g4⟩ := ha
       rw [g1] at g3
       exact ⟨⟨(m, s2), by omega, g4, g1⟩, g3, by simp only; omega⟩
     | exit i => exact sat_mono (LPof_mono _ _) (QN_mono (by omega)) _ ha
     | ret => exact sat_mono (LPof_mono _ _) (QN_mono (by omega)) _ ha
   | .i body rd =>
     refine ilp_ok (un := un) hd 0 0 {p : Nat × S // p.1 <= n /\ EvN step p.1 p.2 r /\ D.id p.2 = j} (fun p => D.inv p.1.2) (fun p => p.1.1) ⟨⟨(n, s), Nat.le_refl _, hn, hj⟩, rfl, hsub⟩ ?_
     rintro ⟨⟨p, s'⟩, hp, he, hj'⟩
     obtain ⟨m, hpm, hk⟩ := key p s' hp he
     simp only at hj' hp hpm
     unfold rdS rdT at hk
     rw [hj', hb] at hk
     simp only [sat_bind] at hk
     refine sat_mono (LPof_mono _ _) (fun a ha => ?_) _ hk
     obtain ⟨x, e', h', g'⟩ := a
     cases x with
     | normal =>
       obtain ⟨s2, g1, g2, g3, g4⟩ := ha
       rw [g1] at g3
       exact ⟨⟨(m, s2), by omega, g4, g1⟩, g2.symm, g3, by simp only; omega⟩
     | exit i => exact sat_mono (LPof_mono _ _) (QN_mono (by omega)) _ ha
     | ret => exact sat_mono (LPof_mono _ _) (QN_mono (by omega)) _ ha
def runL (J : Type) (ct : CTab) (un : Unr) (sf : SFun) (ds : List V) : T (Leaf J) := evFun (cfOf ct LV) (cpOf ct) un LV sf ds [] fun v _ => .ret (.res v)
def topQ (r : V) : Leaf J -> Prop
 | .res v => toA v = toA r
 | .head .. => True
theorem QN_top {w0 : World} {D : LD J S} {step : S -> RT S} {r : V} {n : Nat} : ∀ a, QN w0 D step r n a -> topQ r a
 | .res v, h => h
 | .head .., _ => trivial
theorem run_ev {ct : CTab} {un : Unr} {w0 : World} (hd : dstT ct = true) {t : T (Leaf J)} (D : LD J S) (step : S -> RT S) (m : RT S) {r : V} (h1 : fitT D t m = toF D m) (h2 : sameT t m = t)
 (hs : ∀ s, fitT D (rdS ct un D s) (step s) = toF D (step s)) (hq : ∀ s, sameT (rdS ct un D s) (step s) = rdS ct un D s) (hr : evR (Ev step) m r) : sat (LPof w0 (SV ct)) t (topQ r) :=
 fit_sat (w0 := w0) (Nx := Ev step) (fun v hv => hv) (fun _ _ _ _ _ => trivial) (fun s e h ⟨n, hn⟩ hsub => LPof_mono _ _ _ _ _ _ _ _ _ (fun x e h g hk => sat_mono (LPof_mono _ _) QN_top _ hk) (loopN hd hs hq n s e h hn hsub)) _ _ h1 h2 hr
theorem allB_el {ts : List Ty} (h : ts.all isCellTy = true) (n : Nat) (f : FnV) : allB n (fun i => okE (lenL ts) (elV ts f i)) = true := allB_of fun i _ => okE_views h _
def lpT : T (Leaf J) -> Lp J
 | .loop fr b _ _ _ k => ⟨fr, b, k⟩
 | _ => ⟨(0, 0), .s .skip, fun _ _ _ _ => .fail 0⟩
def noD : LD J Empty := ⟨fun s => (nomatch s), fun _ => ⟨(0, 0), .s .skip, fun _ _ _ _ => .fail 0⟩, fun s => (nomatch s)⟩
def noE : Empty -> V -> Prop := fun s => nomatch s
theorem run_ev0 {ct : CTab} {w0 : World} (hd : dstT ct = true) {t : T (Leaf J)} (m : RT Empty) {r : V} (h1 : fitT noD t m = toF noD m) (h2 : sameT t m = t) (hr : evR noE m r) : sat (LPof w0 (SV ct)) t (topQ r) :=
 fit_sat (w0 := w0) (Nx := noE) (fun v hv => hv) (fun s => (nomatch s)) (fun s => (nomatch s)) _ _ h1 h2 hr
def Fit (D : LD J S) (t : T (Leaf J)) (m : RT S) : Prop := fitT D t m = toF D m /\ sameT t m = t
def Fits (ct : CTab) (un : Unr) (D : LD J S) (t : T (Leaf J)) (m : RT S) (st : S -> RT S) : Prop := Fit D t m /\ ∀ s, Fit D (rdS ct un D s) (st s)
def Run (ct : CTab) (t : T (Leaf J)) (r : V) : Prop := dstT ct = true -> ∀ w0, sat (LPof w0 (SV ct)) t (topQ r)
theorem rf0 {ct : CTab} {t : T (Leaf J)} {m : RT Empty} {r : V} (h : Fit noD t m) (hr : evR noE m r) : Run ct t r := fun hd _ => run_ev0 hd m h.1 h.2 hr
theorem rfs {ct : CTab} {un : Unr} {D : LD J S} {t : T (Leaf J)} {m : RT S} {st : S -> RT S} {r : V} (h : Fits ct un D t m st) (hr : evR (Ev st) m r) : Run ct t r := fun hd _ => run_ev hd D st m h.1.1 h.1.2 (fun s => (h.2 s).1) (fun s => (h.2 s).2) hr
inductive Cx where
 | i (n : Int)
 | n (n : Nat)
 | b (b : Bool)
 | s (s : ByteArray)
 | f (f : FnV)
def cxi : List Cx -> Nat -> Int
 | .i n :: _, 0 => n
 | _ :: l, k + 1 => cxi l k
 | _, _ => 0
def cxn : List Cx -> Nat -> Nat
 | .n n :: _, 0 => n
 | _ :: l, k + 1 => cxn l k
 | _, _ => 0
def cxf : List Cx -> Nat -> Nat -> List V
 | .f n :: _, 0 => n
 | _ :: l, k + 1 => cxf l k
 | _, _ => fun _ => []
abbrev JJ := Nat × List Cx
theorem mkC_ev {P : Program} {eqs : List TypeId} {its : List IFun} {ct : CTab} {f : FuncId} {fn : Func} {sf : SFun} {un : Unr} {ts : List Ty} {pre : List V -> Prop} {r : List V -> V} (hT : TabOk P eqs its ct) (hE : ∀ t ∈ eqs, EqInts P t) (hI : itsOk P eqs its) (hf : P.funcs[f]? = some fn)
 (hn : (fn.name == "runtime.NumGoroutine") = false) (hc : compFun P eqs its fn = some sf) (hd : dstC sf.ntmps sf.body = true) (ho : okTys ts = true)
 (h : ∀ w0 ds, pre (views ts ds) -> sat (LPof w0 (SV ct)) (runL J ct un sf (views ts ds)) (topQ (r (views ts ds)))) : (vP (mkC ts pre r)).Ok P f :=
 mkC_okG (α := Leaf J) (K0 := fun v => .ret (.res v)) (Q0 := topQ) (fun _ _ _ h => h) hT hE hI hf hn hc hd ho h
end
end Go.Dx
namespace Go.Sx
def intType (P : Program) (t : TypeId) : Bool := match P.underlying t with
 | some (.int _) => true
 | _ => false
def intFields (P : Program) : List Field -> Nat -> Bool
 | [], _ => true
 | f :: fs, i => decide (f.name ≠ "_") && Nat.beq f.offset i && intType P f.type && intFields P fs (i + 1)
section
variable {P : Program} {m : Names}
theorem intType_eq {t : TypeId} (h : intType P t = true) : ∃ k, P.underlying t = some (.int k) := by
 unfold intType at h
 split at h
 ·rename_i k hk; exact ⟨k, hk⟩
 ·cases h
theorem run_part_int {t : TypeId} {k : IntKind} (ht : P.underlying t = some (.int k)) {us : Array Value} {i : Nat} {v : Value} (hv : us[i]? = some v) (w : World) : (part t us i).run P w = .ok v w := by
 unfold part
 have hi : (isAgg t).run P w = .ok false w := by
  unfold isAgg
  rw [run_bind_ok (run_underlying ht w)]; rfl
 rw [run_bind_ok hi]
 simp only [Bool.false_eq_true, if_false, hv]
 rfl
theorem eqFields_ints {d : Nat} : ∀ (fs : List Field) (i : Nat) (xs ys : List AVal) (us vs : Array Value) (b : Bool) (w : World), intFields P fs i = true -> fs.length = xs.length -> vrels m xs (us.toList.drop i) -> vrels m ys (vs.toList.drop i) -> eqCells xs ys = some b ->
 (Op.eqFields (d + 1) us vs fs).run P w = .ok b w
 | [], i, xs, ys, us, vs, b, w, _, hl, _, _, hb => by
   cases xs with
   | cons _ _ => simp at hl
   | nil => cases ys with
     | nil => simp [eqCells] at hb; subst hb; rfl
     | cons _ _ => simp [eqCells] at hb
 | f :: fs, i, xs, ys, us, vs, b, w, hf, hl, hx, hy, hb => by
   simp only [intFields, Bool.and_eq_true, decide_eq_true_eq] at hf
   obtain ⟨⟨⟨h1, h2⟩, h3⟩, h4⟩ := hf
   obtain ⟨k, hk⟩ := intType_eq h3
   have ho := Nat.eq_of_beq_eq_true h2
   cases xs with
   | nil => simp at hl
   | cons x xs => cases ys with
     | nil => cases x <;> simp [eqCells] at hb
     | cons y ys =>
       cases x <;> try (simp [eqCells] at hb; done)
       rename_i ka a
       cases y <;> try (simp [eqCells] at hb; done)
       rename_i kb c
       simp only [eqCells] at hb
       split at hb
       ·rename_i hkk
        subst hkk
        simp only [Option.map_eq_some_iff] at hb
        obtain ⟨b', hb', rfl⟩ := hb
        simp only [vrels] at hx hy
        obtain ⟨u, us', hu, hur, hus⟩ := hx
        obtain ⟨v, vs', hv, hvr, hvs⟩ := hy
        simp only [vrel] at hur hvr
        subst hur; subst hvr
        have gu : us[i]? = some (.int ka a) := by
         have := congrArg (·[0]?) hu
         simpa using this
        have gv : vs[i]? = some (.int ka c) := by
         have := congrArg (·[0]?) hv
         simpa using this
        have du : us.toList.drop (i + 1) = us' := by rw [← List.drop_drop, hu]; rfl
        have dv : vs.toList.drop (i + 1) = vs' := by rw [← List.drop_drop, hv]; rfl
        simp only [Op.eqFields]
        rw [if_pos h1, ho, run_bind_ok (run_part_int hk gu w), run_bind_ok (run_part_int hk gv w), run_bind_ok (run_equalIn_int w d f.type ka k a c hk)]
        cases hac : (a == c) with
        | false => simp only [Bool.not_false, if_true, Bool.false_and]; rfl
        | true =>
          simp only [Bool.not_true, Bool.false_eq_true, if_false, Bool.true_and]
          exact eqFields_ints fs (i + 1) xs ys us vs b' w h4 (by simpa using hl) (by rw [du]; exact hus) (by rw [dv]; exact hvs) hb'
       ·cases hb
theorem eqInts_struct {t : TypeId} (ht : P.underlying t = some (.struct (P.fieldsOf t))) (hp : P.stoodInHeld t = false) (hg : P.eqGuardType P.depth t = false) (hn : (P.info? t).map (·.size) = some (P.fieldsOf t).toList.length) (hf : intFields P (P.fieldsOf t).toList 0 = true) : EqInts P t := by
 refine ⟨hg, fun n hn' xs ys us vs m b w hl hx hy hb => ?_⟩
 rw [hn] at hn'; cases hn'
 unfold Op.equal
 rw [show Op.maxDepth = 9998 + 1 + 1 from rfl, run_equalIn_struct w _ t us vs ht hp]
 exact eqFields_ints (d := 9998) _ 0 xs ys us vs b w hf hl.symm (by simpa using hx) (by simpa using hy) hb
theorem eqItems_ints {d : Nat} {e : TypeId} (he : intType P e = true) (h1 : P.cellsOf e = 1) : ∀ (n i : Nat) (xs ys : List AVal) (us vs : Array Value) (b : Bool) (w : World), n = xs.length -> vrels m xs (us.toList.drop i) -> vrels m ys (vs.toList.drop i) -> eqCells xs ys = some b ->
 (Op.eqItems (d + 1) e (P.cellsOf e) us vs (List.range' i n)).run P w = .ok b w
 | 0, i, xs, ys, us, vs, b, w, hl, _, _, hb => by
   cases xs with
   | cons _ _ => simp at hl
   | nil => cases ys with
     | nil => simp [eqCells] at hb; subst hb; rfl
     | cons _ _ => simp [eqCells] at hb
 | n + 1, i, xs, ys, us, vs, b, w, hl, hx, hy, hb => by
   obtain ⟨k, hk⟩ := intType_eq he
   cases xs with
   | nil => simp at hl
   | cons x xs => cases ys with
     | nil => cases x <;> simp [eqCells] at hb
     | cons y ys =>
       cases x <;> try (simp [eqCells] at hb; done)
       rename_i ka a
       cases y <;> try (simp [eqCells] at hb; done)
       rename_i kb c
       simp only [eqCells] at hb
       split at hb
       ·rename_i hkk
        subst hkk
        simp only [Option.map_eq_some_iff] at hb
        obtain ⟨b', hb', rfl⟩ := hb
        simp only [vrels] at hx hy
        obtain ⟨u, us', hu, hur, hus⟩ := hx
        obtain ⟨v, vs', hv, hvr, hvs⟩ := hy
        simp only [vrel] at hur hvr
        subst hur; subst hvr
        have gu : us[i]? = some (.int ka a) := by
         have := congrArg (·[0]?) hu
         simpa using this
        have gv : vs[i]? = some (.int ka c) := by
         have := congrArg (·[0]?) hv
         simpa using this
        have du : us.toList.drop (i + 1) = us' := by rw [← List.drop_drop, hu]; rfl
        have dv : vs.toList.drop (i + 1) = vs' := by rw [← List.drop_drop, hv]; rfl
        rw [List.range'_succ]
        simp only [Op.eqItems, h1, Nat.mul_one]
        rw [run_bind_ok (run_part_int hk gu w), run_bind_ok (run_part_int hk gv w), run_bind_ok (run_equalIn_int w d e ka k a c hk)]
        cases hac : (a == c) with
        | false => simp only [Bool.not_false, if_true, Bool.false_and]; rfl
        | true =>
          simp only [Bool.not_true, Bool.false_eq_true, if_false, Bool.true_and]
          have := eqItems_ints (d := d) he h1 n (i + 1) xs ys us vs b' w (by simpa using hl) (by rw [du]; exact hus) (by rw [dv]; exact hvs) hb'
          rw [h1] at this; exact this
       ·cases hb
theorem eqInts_array {t : TypeId} (e : TypeId) (n : Nat) (ht : P.underlying t = some (.array n e)) (hi : (P.info? e).isSome = true) (hg : P.eqGuardType P.depth t = false) (hn : (P.info? t).map (·.size) = some n) (h1 : P.cellsOf e = 1) (hf : intType P e = true) : EqInts P t := by
 obtain ⟨ie, hi⟩ := Option.isSome_iff_exists.1 hi
 refine ⟨hg, fun n' hn' xs ys us vs m b w hl hx hy hb => ?_⟩
 rw [hn] at hn'; cases hn'
 unfold Op.equal
 rw [show Op.maxDepth = 9998 + 1 + 1 from rfl, run_equalIn_array w _ us vs ht hi, List.range_eq_range']
 exact eqItems_ints (d := 9998) hf h1 n 0 xs ys us vs b w hl.symm (by simpa using hx) (by simpa using hy) hb
end
end Go.Sx
namespace Go.Dx
open Go.Sx
def sa (d a : Nat) : SOp := ⟨some d, .mov (.t a), none⟩
def ea (d a : Nat) : DOp := ⟨⟨some d, .mov (.t a), none⟩, none, [], []⟩
def sb (d a : Nat) : SOp := ⟨some d, .ld (.t a), none⟩
def eb (d a : Nat) : DOp := ⟨⟨some d, .ld (.t a), none⟩, none, [], []⟩
def sc (d n a : Nat) : SOp := ⟨some d, .lds n (.t a), none⟩
def ec (d n a : Nat) : DOp := ⟨⟨some d, .lds n (.t a), none⟩, none, [], []⟩
def se (d n a : Nat) : SOp := ⟨some d, .fa n (.t a), none⟩
def ee (d n a : Nat) : DOp := ⟨⟨some d, .fa n (.t a), none⟩, none, [], []⟩
def ki (n : Int) : Arg := .k (.int .i64 n)
def gt (d : Nat) (p : IOp) (g : Nat) : DOp := ⟨⟨some d, p, some (g, true)⟩, none, [], []⟩
def gf (d : Nat) (p : IOp) (g : Nat) : DOp := ⟨⟨some d, p, some (g, false)⟩, none, [], []⟩
def b1 (d : Nat) (o : BinOp) (a b : Nat) : SOp := ⟨some d, .bin o (.t a) (.t b), none⟩
def d1 (d : Nat) (o : BinOp) (a b : Nat) : DOp := ⟨⟨some d, .bin o (.t a) (.t b), none⟩, none, [], []⟩
def b2 (d : Nat) (o : BinOp) (a : Nat) (n : Int) : SOp := ⟨some d, .bin o (.t a) (.k (.int .i64 n)), none⟩
def d2 (d : Nat) (o : BinOp) (a : Nat) (n : Int) : DOp := ⟨⟨some d, .bin o (.t a) (.k (.int .i64 n)), none⟩, none, [], []⟩
def b3 (d f : Nat) (l : List Nat) : SOp := ⟨some d, .call f (l.map .t), none⟩
def d3 (d f : Nat) (l : List Nat) : DOp := ⟨⟨some d, .call f (l.map .t), none⟩, none, [], []⟩
def b4 (d a : Nat) : SOp := ⟨some d, .len (.t a), none⟩
def d4 (d a : Nat) : DOp := ⟨⟨some d, .len (.t a), none⟩, none, [], []⟩
def b5 (d a : Nat) : SOp := ⟨some d, .un .not (.t a), none⟩
def b6 (d : Nat) (n : Int) : SOp := ⟨some d, .mov (.k (.int .i64 n)), none⟩
def b7 (d n a b : Nat) : SOp := ⟨some d, .iaS n (.t a) (.t b), none⟩
def d7 (d n a b : Nat) : DOp := ⟨⟨some d, .iaS n (.t a) (.t b), none⟩, none, [], []⟩
def zs (n : Nat) : List AVal := List.replicate n (.int .i64 0)
def b8 (n a b : Nat) : SOp := ⟨none, .st n (.t a) (.t b), none⟩
def rg (l : List SOp) (c : SCode) : SCode := .seq (.reg l) c
def so (d : Nat) (p : IOp) : SOp := ⟨some d, p, none⟩
def eo (d : Nat) (p : IOp) : DOp := ⟨⟨some d, p, none⟩, none, [], []⟩
def dz (o : SOp) : DOp := ⟨o, none, [], []⟩
def its : List IFun := [⟨128, 46, (.seq (.reg [.op ⟨(some 6), .fa 2 (.t 1), none⟩, .op ⟨(some 7), .ld (.t 6), none⟩, .op ⟨(some 8), .len (.t 7), none⟩, .op ⟨(some 9), .bin .sub (.t 8) (ki 1), none⟩, .op ⟨(some 10), .mov (ki 0), none⟩]) (.block 0 (.loop (.seq (.reg [.op ⟨(some 11), .bin .lss (.t 10) (.t 9), none⟩]) (.seq (.cond (.t 11) .skip (.exit 0)) (.seq (.block 1 (.seq (.reg [.op ⟨(some 12), .mov (.t 10), none⟩, .op ⟨(some 3), .mov (.t 12), none⟩]) (.seq (.draw [⟨⟨(some 13), .fa 2 (.t 1), none⟩, none, [11, 12], []⟩, ⟨⟨(some 14), .ld (.t 13), none⟩, none, [11, 12], []⟩, ⟨⟨(some 15), .mov (.t 3), none⟩, none, [11, 12], []⟩, ⟨⟨(some 16), .iaS 2 (.t 14) (.t 15), none⟩, none, [11, 12], []⟩, ⟨⟨(some 17), .lds 2 (.t 16), none⟩, none, [11, 12], []⟩, ⟨⟨(some 18), .fa 2 (.t 1), none⟩, none, [11, 12, 13], []⟩, ⟨⟨(some 19), .ld (.t 18), none⟩, none, [11, 12, 13], []⟩, ⟨⟨(some 20), .mov (.t 3), none⟩, none, [11, 12, 13], []⟩, ⟨⟨(some 21), .bin .add (.t 20) (ki 1), none⟩, none, [11, 12, 13], []⟩, ⟨⟨(some 22), .iaS 2 (.t 19) (.t 21), none⟩, none, [11, 12, 13], []⟩, ⟨⟨(some 23), .lds 2 (.t 22), none⟩, none, [11, 12, 13], []⟩, ⟨⟨(some 4), .new 72 (zs 2), none⟩, (some 0), [12], [.fresh 0]⟩, ⟨⟨(some 5), .new 72 (zs 2), none⟩, (some 1), [11], [.fresh 1]⟩, ⟨(b8 2 4 17), none, [], [.fresh 0]⟩, ⟨(b8 2 5 23), none, [], [.fresh 1]⟩]) (.seq (.reg [.op ⟨(some 24), .mov (.t 0), none⟩, .op ⟨(some 25), .iaA 2 1 (.t 4) (ki 0), none⟩, .op ⟨(some 26), .ld (.t 25), none⟩, .op ⟨(some 27), .bin .mul (ki 2) (.t 26), none⟩, .op ⟨(some 28), .iaA 2 1 (.t 4) (ki 1), none⟩, .op ⟨(some 29), .ld (.t 28), none⟩, .op ⟨(some 30), .bin .mul (ki 2) (.t 29), none⟩, .op ⟨(some 31), .agg (zs 2) [(0, 1, (.t 27)), (1, 1, (.t 30))], none⟩, .op ⟨(some 32), .iaA 2 1 (.t 5) (ki 0), none⟩, .op ⟨(some 33), .ld (.t 32), none⟩, .op ⟨(some 34), .bin .mul (ki 2) (.t 33), none⟩, .op ⟨(some 35), .iaA 2 1 (.t 5) (ki 1), none⟩, .op ⟨(some 36), .ld (.t 35), none⟩, .op ⟨(some 37), .bin .mul (ki 2) (.t 36), none⟩, .op ⟨(some 38), .agg (zs 2) [(0, 1, (.t 34)), (1, 1, (.t 37))], none⟩, .op ⟨(some 39), .agg (zs 4) [(0, 2, (.t 31)), (2, 2, (.t 38))], none⟩, .op ⟨(some 40), .fa 3 (.t 1), none⟩, .op ⟨(some 41), .ld (.t 40), none⟩, .op ⟨(some 42), .agg (zs 5) [(0, 4, (.t 39)), (4, 1, (.t 41))], none⟩, .yld 24 (some 43) [(.t 42)], .op ⟨(some 44), .un .not (.t 43), none⟩]) (.cond (.t 44) .ret .skip))))) (.reg [.op ⟨(some 45), .bin .add (.t 10) (ki 1), none⟩, .op ⟨(some 10), .mov (.t 45), none⟩])))))))⟩]
def s6 : SFun := ⟨160,[.tmp 4],(rg [(so 2 (.box 27 (.t 0))),(so 3 (.box 39 (.t 1))),(so 4 (.mov (.k (.bool false))))] (rg [(sc 19 7 3),(b3 20 20 [19]),(sa 18 20),(so 21 (.ext (.t 18) 0)),(so 22 (.ext (.t 18) 1)),(so 23 (.ext (.t 18) 2)),(sa 5 21),(sa 6 22),(sa 7 23)] (.seq (rg [(sa 24 7),(b5 25 24)] (.cond (.t 25) (rg [(so 26 (.call 19 [])),(sa 4 26)] .ret) .skip)) (rg [(sa 27 5),(sa 28 6),(sa 29 5),(sa 30 6),(so 31 (.agg (zs 4) [(0,1,(.t 27)),(1,1,(.t 28)),(2,1,(.t 29)),(3,1,(.t 30))])),(so 8 (.new 29 (zs 4))),(b8 4 8 31)] (rg [(sc 33 4 2),(se 34 0 3),(sb 35 34),(se 36 1 3),(sc 37 4 36),(b3 38 22 [33,35,37]),(sa 32 38),(so 39 (.ext (.t 32) 0)),(so 40 (.ext (.t 32) 1)),(sa 9 39),(sa 10 40)] (rg [(sc 42 4 2),(se 43 0 3),(sb 44 43),(sa 45 5),(sa 46 6),(b3 47 25 [42,44,45,46]),(sa 41 47),(so 48 (.ext (.t 41) 0)),(so 49 (.ext (.t 41) 1)),(sa 11 48),(sa 12 49)] (rg [(sc 51 4 2),(se 52 0 3),(sb 53 52),(sc 54 4 8),(b3 55 22 [51,53,54]),(sa 50 55),(so 56 (.ext (.t 50) 0)),(so 57 (.ext (.t 50) 1)),(sa 13 56),(sa 14 57)] (.seq (rg [(sa 58 10),(sa 59 12),(b1 60 .neq 58 59),(sa 61 60),⟨(some 62),.mov (.t 10),(some (61,false))⟩,⟨(some 63),.mov (.t 14),(some (61,false))⟩,⟨(some 64),.bin .neq (.t 62) (.t 63),(some (61,false))⟩,(so 65 (.pick (.t 61) (.k (.bool true)) (.t 64)))] (.cond (.t 65) (rg [(so 4 (.mov (.k (.bool false))))] .ret) .skip)) (.seq (rg [(sa 66 10),(b2 67 .eql 66 0),(sa 68 67),⟨(some 69),.mov (.t 9),(some (68,true))⟩,⟨(some 70),.bin .eql (.t 69) (ki 2),(some (68,true))⟩,⟨(some 71),.mov (.t 70),(some (68,true))⟩,⟨(some 72),.mov (.t 11),(some (71,true))⟩,⟨(some 73),.un .not (.t 72),(some (71,true))⟩,⟨(some 74),.pick (.t 71) (.t 73) (.k (.bool false)),(some (68,true))⟩,⟨(some 75),.mov (.t 74),(some (68,true))⟩,⟨(some 76),.mov (.t 9),(some (75,false))⟩,⟨(some 77),.bin .eql (.t 76) (ki 0),(some (75,false))⟩,⟨(some 78),.mov (.t 77),(some (75,false))⟩,⟨(some 79),.mov (.t 11),(some (78,true))⟩,⟨(some 80),.pick (.t 78) (.t 79) (.k (.bool false)),(some (75,false))⟩,⟨(some 81),.pick (.t 75) (.k (.bool true)) (.t 80),(some (68,true))⟩,⟨(some 82),.mov (.t 81),(some (68,true))⟩,⟨(some 83),.mov (.t 11),(some (82,false))⟩,⟨(some 84),.mov (.t 13),(some (82,false))⟩,⟨(some 85),.bin .eql (.t 84) (ki 2),(some (82,false))⟩,⟨(some 86),.eqb true (.t 83) (.t 85),(some (82,false))⟩,⟨(some 87),.pick (.t 82) (.k (.bool true)) (.t 86),(some (68,true))⟩,⟨(some 88),.mov (.t 87),(some (68,true))⟩,⟨(some 89),.mov (.t 11),(some (88,false))⟩,⟨(some 90),.mov (.t 13),(some (88,false))⟩,⟨(some 91),.bin .eql (.t 90) (ki 0),(some (88,false))⟩,⟨(some 92),.eqb false (.t 89) (.t 91),(some (88,false))⟩,⟨(some 93),.pick (.t 88) (.k (.bool true)) (.t 92),(some (68,true))⟩,(so 94 (.pick (.t 68) (.t 93) (.k (.bool false))))] (.cond (.t 94) (rg [(so 4 (.mov (.k (.bool false))))] .ret) .skip)) (rg [(sc 96 4 2),(se 97 0 3),(sb 98 97),(se 99 1 3),(sc 100 4 99),(b3 101 17 [96,98,100]),(sa 95 101),(so 102 (.ext (.t 95) 0)),(so 103 (.ext (.t 95) 1)),(sa 15 102),(sa 10 103)] (rg [(sc 105 4 2),(se 106 0 3),(sb 107 106),(sa 108 5),(sa 109 6),(b3 110 15 [105,107,108,109]),(sa 104 110),(so 111 (.ext (.t 104) 0)),(so 112 (.ext (.t 104) 1)),(sa 16 111),(sa 12 112)] (rg [(sc 114 4 2),(se 115 0 3),(sb 116 115),(sc 117 4 8),(b3 118 17 [114,116,117]),(sa 113 118),(so 119 (.ext (.t 113) 0)),(so 120 (.ext (.t 113) 1)),(sa 17 119),(sa 14 120)] (.seq (rg [(sa 121 10),(sa 122 12),(b1 123 .neq 121 122),(sa 124 123),⟨(some 125),.mov (.t 10),(some (124,false))⟩,⟨(some 126),.mov (.t 14),(some (124,false))⟩,⟨(some 127),.bin .neq (.t 125) (.t 126),(some (124,false))⟩,(so 128 (.pick (.t 124) (.k (.bool true)) (.t 127)))] (.cond (.t 128) (rg [(so 4 (.mov (.k (.bool false))))] .ret) .skip)) (.seq (rg [(sa 129 10),(b2 130 .neq 129 0)] (.cond (.t 130) (rg [(so 131 (.call 19 [])),(sa 4 131)] .ret) .skip)) (rg [(sa 132 15),(b2 133 .neq 132 0),(sa 134 133),⟨(some 135),.mov (.t 16),(some (134,false))⟩,⟨(some 136),.bin .eql (.t 135) (ki (-1)),(some (134,false))⟩,(so 137 (.pick (.t 134) (.k (.bool true)) (.t 136))),(sa 138 137),⟨(some 139),.mov (.t 15),(some (138,true))⟩,⟨(some 140),.bin .neq (.t 139) (ki 2),(some (138,true))⟩,⟨(some 141),.mov (.t 140),(some (138,true))⟩,⟨(some 142),.mov (.t 16),(some (141,false))⟩,⟨(some 143),.bin .geq (.t 142) (ki 0),(some (141,false))⟩,⟨(some 144),.pick (.t 141) (.k (.bool true)) (.t 143),(some (138,true))⟩,(so 145 (.pick (.t 138) (.t 144) (.k (.bool false)))),(sa 146 145),⟨(some 147),.mov (.t 16),(some (146,true))⟩,⟨(some 148),.bin .eql (.t 147) (ki (-1)),(some (146,true))⟩,⟨(some 149),.mov (.t 17),(some (146,true))⟩,⟨(some 150),.bin .eql (.t 149) (ki 0),(some (146,true))⟩,⟨(some 151),.eqb false (.t 148) (.t 150),(some (146,true))⟩,(so 152 (.pick (.t 146) (.t 151) (.k (.bool false)))),(sa 153 152),⟨(some 154),.mov (.t 17),(some (153,true))⟩,⟨(some 155),.bin .neq (.t 154) (ki 1),(some (153,true))⟩,(so 156 (.pick (.t 153) (.t 155) (.k (.bool false)))),(sa 157 156),⟨(some 158),.call 19 [],(some (157,true))⟩,(so 159 (.pick (.t 157) (.t 158) (.k (.bool false)))),(sa 4 159)] .ret)))))))))))))))⟩
def s15 : SFun := ⟨30,[.tmp 8,.tmp 9],(rg [(so 4 (.box 27 (.t 0))),(so 5 (.box 3 (.t 1))),(so 6 (.box 3 (.t 2))),(so 7 (.box 3 (.t 3))),(b6 8 0),(b6 9 0)] (rg [(sc 10 4 4),(sb 11 5),(se 12 3 4),(sb 13 12),(b4 14 13),(so 15 (.bsl 3 2 (zs 2) [(0,1,(.t 11)),(1,1,(.t 14))])),(b3 16 44 [10,15]),(sa 9 16)] (.seq (.block 0 (rg [(sa 18 9),(b2 19 .neq 18 0),(sa 17 19)] (.cond (.t 17) (rg [(sa 20 9),(b6 8 0),(sa 9 20)] .ret) (rg [(sb 22 6),(sb 23 7),(so 24 (.bsl 3 2 (zs 2) [(0,1,(.t 22)),(1,1,(.t 23))])),(b3 25 45 [24]),(sa 21 25)] (.cond (.t 21) (rg [(b6 8 0),(b6 9 7)] .ret) .skip))))) (rg [(se 26 1 4),(sb 27 26),(so 28 (.mkf (.func 47) [] [(.t 4),(.t 5),(.t 6),(.t 7)])),(b3 29 46 [27,28]),(sa 8 29),(b6 9 0)] .ret))))⟩
def s17 : SFun := ⟨57,[.tmp 6,.tmp 7],(rg [(so 3 (.box 27 (.t 0))),(so 5 (.box 29 (.t 2))),(b6 6 0),(b6 7 0)] (rg [(sc 14 4 3),(sa 15 1),(se 16 3 3),(sb 17 16),(b4 18 17),(so 19 (.bsl 3 2 (zs 2) [(0,1,(.t 15)),(1,1,(.t 18))])),(b3 20 44 [14,19]),(sa 8 20)] (.seq (.block 0 (rg [(sa 22 8),(b2 23 .neq 22 0),(sa 21 23)] (.cond (.t 21) (rg [(sa 24 8),(b6 6 0),(sa 7 24)] .ret) (rg [(sc 26 4 5),(b3 27 53 [26]),(sa 25 27)] (.cond (.t 25) (rg [(b6 6 0),(b6 7 7)] .ret) .skip))))) (rg [(b6 9 0)] (.seq (rg [(se 28 1 3),(sb 29 28),(b4 30 29),(b6 31 0)] (.block 1 (.loop (rg [(b1 32 .lss 31 30)] (.seq (.cond (.t 32) .skip (.exit 1)) (.seq (.block 2 (rg [(b7 33 5 29 31),(sc 34 5 33),(so 11 (.new 57 (zs 5))),(b8 5 11 34)] (.seq (.draw [⟨(se 35 3 3),none,[7],[]⟩,⟨(sb 36 35),none,[7],[]⟩,⟨(sa 37 1),none,[7],[]⟩,⟨(b7 38 6 36 37),none,[7],[]⟩,⟨(sc 39 6 38),none,[7],[]⟩,⟨(sc 40 5 11),none,[7],[]⟩,⟨(b3 41 48 [39,40]),none,[7],[]⟩,⟨(so 12 (.new 97 [(.int .i64 0),(.int .i64 0),(.int .i64 0),(.int .i64 0),(.int .i64 0),(.int .i64 0),(.int .i64 0),(.int .i64 0),(.bool false)])),(some 0),[],[.fresh 0]⟩,⟨(b8 9 12 41),none,[],[.fresh 0]⟩]) (rg [(sc 42 4 5),(b3 43 54 [42]),(so 13 (.new 108 (zs 8))),(b8 8 13 43)] (.block 3 (rg [(so 45 (.slA 4 2 (.t 13) none none none)),(so 46 (.mkf (.func 56) [] [(.t 12)])),(b3 47 55 [45,46]),(b5 48 47),(sa 44 48)] (.cond (.t 44) (.reg [(b6 9 2)]) (rg [(sc 50 9 12),(sc 51 4 5),(b3 52 57 [50,51]),(sa 49 52)] (.cond (.t 49) (.reg [(sa 53 9),(so 54 (.mm true (.t 53) [(ki 1)])),(sa 9 54)]) .skip))))))))) (.reg [(b2 55 .add 31 1),(sa 31 55)]))))))) (rg [(sa 56 9),(sa 6 56),(b6 7 0)] .ret))))))⟩
def s19 : SFun := ⟨62,[.tmp 0],(rg [(so 0 (.mov (.k (.bool false))))] (rg [(so 11 (.call 43 [])),(so 1 (.new 27 [(.slice none 0 0),(.slice none 0 0),(.slice none 0 0),(.slice none 0 0)])),(b8 4 1 11)] (rg [(sc 13 4 1),(so 14 (.agg (zs 4) [(0,1,(ki 8500)),(1,1,(ki (-1500))),(2,1,(ki 11500)),(3,1,(ki 1500))])),(so 15 (.call 22 [(.t 13),(ki 0),(.t 14)])),(sa 12 15),(so 16 (.ext (.t 12) 0)),(so 17 (.ext (.t 12) 1)),(sa 2 16),(sa 3 17)] (rg [(sc 19 4 1),(so 20 (.agg (zs 4) [(0,1,(ki 3900)),(1,1,(ki 3900)),(2,1,(ki 4100)),(3,1,(ki 4100))])),(so 21 (.call 17 [(.t 19),(ki 0),(.t 20)])),(sa 18 21),(so 22 (.ext (.t 18) 0)),(so 23 (.ext (.t 18) 1)),(sa 4 22),(sa 5 23)] (rg [(sc 25 4 1),(so 26 (.call 15 [(.t 25),(ki 0),(ki 4000),(ki 5000)])),(sa 24 26),(so 27 (.ext (.t 24) 0)),(so 28 (.ext (.t 24) 1)),(sa 6 27),(sa 7 28)] (rg [(so 30 (.mks 57 1 (zs 5))),(so 31 (.agg [(.slice none 0 0),(.slice none 0 0),(.slice none 0 0),(.slice none 0 0)] [(1,1,(.t 30))])),(b3 32 23 [31]),(sa 29 32),(so 33 (.ext (.t 29) 0)),(so 34 (.ext (.t 29) 1)),(so 35 (.ext (.t 29) 2)),(sa 8 33),(sa 9 34),(sa 10 35)] (rg [(sa 36 3),(b2 37 .eql 36 0),(sa 38 37),⟨(some 39),.mov (.t 5),(some (38,true))⟩,⟨(some 40),.bin .eql (.t 39) (ki 0),(some (38,true))⟩,(so 41 (.pick (.t 38) (.t 40) (.k (.bool false)))),(sa 42 41),⟨(some 43),.mov (.t 7),(some (42,true))⟩,⟨(some 44),.bin .eql (.t 43) (ki 0),(some (42,true))⟩,(so 45 (.pick (.t 42) (.t 44) (.k (.bool false)))),(sa 46 45),⟨(some 47),.mov (.t 10),(some (46,true))⟩,⟨(some 48),.bin .eql (.t 47) (ki 7),(some (46,true))⟩,(so 49 (.pick (.t 46) (.t 48) (.k (.bool false)))),(sa 50 49),⟨(some 51),.mov (.t 2),(some (50,true))⟩,⟨(some 52),.bin .eql (.t 51) (ki 1),(some (50,true))⟩,(so 53 (.pick (.t 50) (.t 52) (.k (.bool false)))),(sa 54 53),⟨(some 55),.mov (.t 4),(some (54,true))⟩,⟨(some 56),.bin .eql (.t 55) (ki 1),(some (54,true))⟩,(so 57 (.pick (.t 54) (.t 56) (.k (.bool false)))),(sa 58 57),⟨(some 59),.mov (.t 6),(some (58,true))⟩,⟨(some 60),.bin .eql (.t 59) (ki (-1)),(some (58,true))⟩,(so 61 (.pick (.t 58) (.t 60) (.k (.bool false)))),(sa 0 61)] .ret)))))))⟩
def s20 : SFun := ⟨66,[.tmp 2,.tmp 3,.tmp 4],(rg [(so 1 (.box 39 (.t 0))),(b6 2 0),(b6 3 0),(so 4 (.mov (.k (.bool false))))] (rg [(se 6 1 1),(sc 7 4 6),(so 5 (.new 29 (zs 4))),(b8 4 5 7)] (.seq (rg [(se 8 0 5),(sb 9 8),(b2 10 .lss 9 (-100000)),(sa 11 10),⟨(some 12),.fa 1 (.t 5),(some (11,false))⟩,⟨(some 13),.ld (.t 12),(some (11,false))⟩,⟨(some 14),.bin .lss (.t 13) (ki (-100000)),(some (11,false))⟩,(so 15 (.pick (.t 11) (.k (.bool true)) (.t 14))),(sa 16 15),⟨(some 17),.fa 2 (.t 5),(some (16,false))⟩,⟨(some 18),.ld (.t 17),(some (16,false))⟩,⟨(some 19),.bin .gtr (.t 18) (ki 100000),(some (16,false))⟩,(so 20 (.pick (.t 16) (.k (.bool true)) (.t 19))),(sa 21 20),⟨(some 22),.fa 3 (.t 5),(some (21,false))⟩,⟨(some 23),.ld (.t 22),(some (21,false))⟩,⟨(some 24),.bin .gtr (.t 23) (ki 100000),(some (21,false))⟩,(so 25 (.pick (.t 21) (.k (.bool true)) (.t 24))),(sa 26 25),⟨(some 27),.fa 0 (.t 5),(some (26,false))⟩,⟨(some 28),.ld (.t 27),(some (26,false))⟩,⟨(some 29),.fa 2 (.t 5),(some (26,false))⟩,⟨(some 30),.ld (.t 29),(some (26,false))⟩,⟨(some 31),.bin .gtr (.t 28) (.t 30),(some (26,false))⟩,(so 32 (.pick (.t 26) (.k (.bool true)) (.t 31))),(sa 33 32),⟨(some 34),.fa 1 (.t 5),(some (33,false))⟩,⟨(some 35),.ld (.t 34),(some (33,false))⟩,⟨(some 36),.fa 3 (.t 5),(some (33,false))⟩,⟨(some 37),.ld (.t 36),(some (33,false))⟩,⟨(some 38),.bin .gtr (.t 35) (.t 37),(some (33,false))⟩,(so 39 (.pick (.t 33) (.k (.bool true)) (.t 38)))] (.cond (.t 39) (rg [(b6 2 0),(b6 3 0),(so 4 (.mov (.k (.bool false))))] .ret) .skip)) (.seq (.draw [(ee 40 0 5),(eb 41 40),(ee 42 2 5),(eb 43 42),(ee 44 0 5),(eb 45 44),(d1 46 .sub 43 45),(ee 47 5 1),(eb 48 47),(eo 49 (.conv .i64 (.t 48))),(d1 50 .mul 46 49),(d2 51 .quo 50 255),(d1 52 .add 41 51),(ee 53 1 5),(eb 54 53),(ee 55 3 5),(eb 56 55),(ee 57 1 5),(eb 58 57),(d1 59 .sub 56 58),(ee 60 6 1),(eb 61 60),(eo 62 (.conv .i64 (.t 61))),(d1 63 .mul 59 62),(d2 64 .quo 63 255),(d1 65 .add 54 64),(ea 2 52),(ea 3 65),(eo 4 (.mov (.k (.bool true))))]) .ret))))⟩
def s22 : SFun := ⟨30,[.tmp 6,.tmp 7],(rg [(so 3 (.box 27 (.t 0))),(so 5 (.box 29 (.t 2))),(b6 6 0),(b6 7 0)] (rg [(sc 9 4 3),(sa 10 1),(se 11 0 3),(sb 12 11),(b4 13 12),(so 14 (.bsl 3 2 (zs 2) [(0,1,(.t 10)),(1,1,(.t 13))])),(b3 15 44 [9,14]),(sa 8 15)] (.seq (.block 0 (rg [(sa 17 8),(b2 18 .neq 17 0),(sa 16 18)] (.cond (.t 16) (rg [(sa 19 8),(b6 6 0),(sa 7 19)] .ret) (rg [(sc 21 4 5),(b3 22 53 [21]),(sa 20 22)] (.cond (.t 20) (rg [(b6 6 0),(b6 7 7)] .ret) .skip))))) (.seq (.draw [(ee 23 0 3),(eb 24 23),(ea 25 1),(d7 26 4 24 25),(ec 27 4 26),(ec 28 4 5),(d3 29 61 [27,28]),(ea 6 29),(eo 7 (.mov (ki 0)))]) .ret))))⟩
def s23 : SFun := ⟨75,[.tmp 2,.tmp 3,.tmp 4],(rg [(so 1 (.box 27 (.t 0))),(b6 2 0),(b6 3 0),(b6 4 0)] (.seq (rg [(se 13 0 1),(sb 14 13),(b4 15 14),(b2 16 .gtr 15 8),(sa 17 16),⟨(some 18),.fa 1 (.t 1),(some (17,false))⟩,⟨(some 19),.ld (.t 18),(some (17,false))⟩,⟨(some 20),.len (.t 19),(some (17,false))⟩,⟨(some 21),.bin .gtr (.t 20) (ki 12),(some (17,false))⟩,(so 22 (.pick (.t 17) (.k (.bool true)) (.t 21))),(sa 23 22),⟨(some 24),.fa 2 (.t 1),(some (23,false))⟩,⟨(some 25),.ld (.t 24),(some (23,false))⟩,⟨(some 26),.len (.t 25),(some (23,false))⟩,⟨(some 27),.bin .gtr (.t 26) (ki 8),(some (23,false))⟩,(so 28 (.pick (.t 23) (.k (.bool true)) (.t 27))),(sa 29 28),⟨(some 30),.fa 3 (.t 1),(some (29,false))⟩,⟨(some 31),.ld (.t 30),(some (29,false))⟩,⟨(some 32),.len (.t 31),(some (29,false))⟩,⟨(some 33),.bin .gtr (.t 32) (ki 24),(some (29,false))⟩,(so 34 (.pick (.t 29) (.k (.bool true)) (.t 33)))] (.cond (.t 34) (rg [(b6 2 0),(b6 3 0),(b6 4 3)] .ret) .skip)) (.seq (rg [(se 36 0 1),(sb 37 36),(so 38 (.call 62 [(.t 37),(.k (.fn (.func 63) [] []))])),(sa 35 38),(so 39 (.ext (.t 35) 0)),(so 40 (.ext (.t 35) 1)),(sa 5 39),(sa 6 40)] (rg [(sa 41 6),(b2 42 .neq 41 0)] (.cond (.t 42) (rg [(sa 43 5),(sa 44 6),(b6 2 1),(sa 3 43),(sa 4 44)] .ret) .skip))) (.seq (rg [(se 46 1 1),(sb 47 46),(so 48 (.call 64 [(.t 47),(.k (.fn (.func 65) [] []))])),(sa 45 48),(so 49 (.ext (.t 45) 0)),(so 50 (.ext (.t 45) 1)),(sa 7 49),(sa 8 50)] (rg [(sa 51 8),(b2 52 .neq 51 0)] (.cond (.t 52) (rg [(sa 53 7),(sa 54 8),(b6 2 2),(sa 3 53),(sa 4 54)] .ret) .skip))) (.seq (rg [(se 56 2 1),(sb 57 56),(so 58 (.call 66 [(.t 57),(.k (.fn (.func 67) [] []))])),(sa 55 58),(so 59 (.ext (.t 55) 0)),(so 60 (.ext (.t 55) 1)),(sa 9 59),(sa 10 60)] (rg [(sa 61 10),(b2 62 .neq 61 0)] (.cond (.t 62) (rg [(sa 63 9),(sa 64 10),(b6 2 3),(sa 3 63),(sa 4 64)] .ret) .skip))) (.seq (rg [(se 66 3 1),(sb 67 66),(so 68 (.call 68 [(.t 67),(.k (.fn (.func 69) [] []))])),(sa 65 68),(so 69 (.ext (.t 65) 0)),(so 70 (.ext (.t 65) 1)),(sa 11 69),(sa 12 70)] (rg [(sa 71 12),(b2 72 .neq 71 0)] (.cond (.t 72) (rg [(sa 73 11),(sa 74 12),(b6 2 4),(sa 3 73),(sa 4 74)] .ret) .skip))) (rg [(b6 2 0),(b6 3 0),(b6 4 0)] .ret)))))))⟩
def s25 : SFun := ⟨35,[.tmp 8,.tmp 9],(rg [(so 4 (.box 27 (.t 0))),(so 8 (.mov (.k (.bool false)))),(b6 9 0)] (rg [(sc 11 4 4),(sa 12 1),(se 13 0 4),(sb 14 13),(b4 15 14),(so 16 (.bsl 3 2 (zs 2) [(0,1,(.t 12)),(1,1,(.t 15))])),(b3 17 44 [11,16]),(sa 10 17)] (.seq (.block 0 (rg [(sa 19 10),(b2 20 .neq 19 0),(sa 18 20)] (.cond (.t 18) (rg [(sa 21 10),(so 8 (.mov (.k (.bool false)))),(sa 9 21)] .ret) (rg [(sa 23 2),(sa 24 3),(so 25 (.bsl 3 2 (zs 2) [(0,1,(.t 23)),(1,1,(.t 24))])),(b3 26 45 [25]),(sa 22 26)] (.cond (.t 22) (rg [(so 8 (.mov (.k (.bool false)))),(b6 9 7)] .ret) .skip))))) (rg [(se 27 0 4),(sb 28 27),(sa 29 1),(b7 30 4 28 29),(sc 31 4 30),(sa 32 2),(sa 33 3),(b3 34 74 [31,32,33]),(sa 8 34),(b6 9 0)] .ret))))⟩
def s43 : SFun := ⟨22,[.cell 0 (some 4)],(rg [(so 0 (.new 27 [(.slice none 0 0),(.slice none 0 0),(.slice none 0 0),(.slice none 0 0)]))] (rg [(so 1 (.agg (zs 2) [(0,1,(ki 0)),(1,1,(ki 0))])),(so 2 (.agg (zs 2) [(0,1,(ki 10000)),(1,1,(ki 0))])),(so 3 (.agg (zs 2) [(0,1,(ki 10000)),(1,1,(ki 10000))])),(so 4 (.bsl 72 3 (zs 6) [(0,2,(.t 1)),(2,2,(.t 2)),(4,2,(.t 3))])),(so 5 (.agg [(.str ⟨#[]⟩),(.int .i64 0),(.slice none 0 0),(.int .i64 0)] [(0,1,(.k (.str ⟨#[104,105,103,104]⟩))),(2,1,(.t 4)),(3,1,(ki 4000))])),(so 6 (.agg (zs 2) [(0,1,(ki 5000)),(1,1,(ki (-2000)))])),(so 7 (.agg (zs 2) [(0,1,(ki 5000)),(1,1,(ki 2000))])),(so 8 (.bsl 72 2 (zs 4) [(0,2,(.t 6)),(2,2,(.t 7))])),(so 9 (.agg [(.str ⟨#[]⟩),(.int .i64 0),(.slice none 0 0),(.int .i64 0)] [(0,1,(.k (.str ⟨#[122,101,98,114,97]⟩))),(1,1,(ki 3)),(2,1,(.t 8)),(3,1,(ki 3000))])),(so 10 (.bsl 54 2 [(.str ⟨#[]⟩),(.int .i64 0),(.slice none 0 0),(.int .i64 0),(.str ⟨#[]⟩),(.int .i64 0),(.slice none 0 0),(.int .i64 0)] [(0,4,(.t 5)),(4,4,(.t 9))])),(so 11 (.agg (zs 5) [(0,1,(ki 4000)),(1,1,(ki 3000)),(2,1,(ki 1000)),(3,1,(ki 20)),(4,1,(ki 40))])),(so 12 (.bsl 57 1 (zs 5) [(0,5,(.t 11))])),(so 13 (.agg (zs 2) [(0,1,(ki 10000)),(1,1,(ki 5000))])),(so 14 (.agg (zs 2) [(0,1,(ki 0)),(1,1,(ki 5000))])),(so 15 (.agg (zs 4) [(0,1,(ki 250)),(1,1,(ki 750)),(2,1,(ki 10)),(3,1,(ki 30))])),(so 16 (.bsl 137 1 (zs 4) [(0,4,(.t 15))])),(so 17 (.agg [(.int .i64 0),(.int .i64 0),(.int .i64 0),(.int .i64 0),(.slice none 0 0)] [(0,2,(.t 13)),(2,2,(.t 14)),(4,1,(.t 16))])),(so 18 (.bsl 123 1 [(.int .i64 0),(.int .i64 0),(.int .i64 0),(.int .i64 0),(.slice none 0 0)] [(0,5,(.t 17))])),(so 19 (.agg [(.str ⟨#[]⟩),(.int .i64 0),(.int .i64 0),(.int .i64 0),(.int .i64 0),(.int .i64 0)] [(0,1,(.k (.str ⟨#[99,49]⟩))),(1,1,(ki 4000)),(2,1,(ki 4000)),(3,1,(ki 60)),(5,1,(ki (-1)))])),(so 20 (.bsl 100 1 [(.str ⟨#[]⟩),(.int .i64 0),(.int .i64 0),(.int .i64 0),(.int .i64 0),(.int .i64 0)] [(0,6,(.t 19))])),(so 21 (.agg [(.slice none 0 0),(.slice none 0 0),(.slice none 0 0),(.slice none 0 0)] [(0,1,(.t 10)),(1,1,(.t 12)),(2,1,(.t 18)),(3,1,(.t 20))])),(b8 4 0 21)] .ret))⟩
def s44 : SFun := ⟨37,[.tmp 4],(rg [(so 2 (.box 27 (.t 0))),(b6 4 0)] (rg [(sc 10 4 2),(b3 11 23 [10]),(sa 9 11),(so 12 (.ext (.t 9) 0)),(so 13 (.ext (.t 9) 1)),(so 14 (.ext (.t 9) 2)),(sa 5 12),(sa 6 13),(sa 7 14)] (.seq (rg [(b6 8 0)] (.block 0 (.loop (.seq (rg [(sa 15 8),(sa 16 1),(b4 17 16),(b1 18 .lss 15 17),(sa 19 18),⟨(some 20),.mov (.t 7),(some (19,true))⟩,⟨(some 21),.bin .eql (.t 20) (ki 0),(some (19,true))⟩,(so 22 (.pick (.t 19) (.t 21) (.k (.bool false))))] (.cond (.t 22) .skip (.exit 0))) (.seq (.block 1 (.seq (.draw [(ea 25 1),(ea 26 8),(d7 27 1 25 26),(eb 28 27),(ea 29 1),(ea 30 8),(d2 31 .add 30 1),(d7 32 1 29 31),(eb 33 32),(d2 34 .sub 33 1),(eo 35 (.call 86 [(.t 28),(ki 0),(.t 34)]))]) (.cond (.t 35) (.reg [(b6 7 4)]) .skip))) (.reg [(sa 23 8),(b2 24 .add 23 2),(sa 8 24)])))))) (rg [(sa 36 7),(sa 4 36)] .ret))))⟩
def s45 : SFun := ⟨5,[.tmp 2],(rg [(so 2 (.mov (.k (.bool false))))] (rg [(sa 3 0),(so 4 (.call 99 [(.t 3),(.k (.fn (.func 100) [] []))])),(sa 2 4)] .ret))⟩
def s46 : SFun := ⟨19,[.tmp 4],(rg [(b6 4 0)] (.seq (rg [(sa 6 0),(b4 7 6),(b6 8 0)] (.block 0 (.loop (rg [(b1 9 .lss 8 7)] (.seq (.cond (.t 9) .skip (.exit 0)) (.seq (.block 1 (rg [(sa 10 8),(sa 5 10)] (rg [(sa 11 1),(sa 12 0),(sa 13 5),(b7 14 5 12 13),(sc 15 5 14),(so 16 (.callv (.t 11) [(.t 15)]))] (.cond (.t 16) (rg [(sa 17 5),(sa 4 17)] .ret) .skip)))) (.reg [(b2 18 .add 8 1),(sa 8 18)]))))))) (rg [(b6 4 (-1))] .ret)))⟩
def s47 : SFun := ⟨18,[.tmp 6],(rg [(so 5 (.box 57 (.t 0))),(so 6 (.mov (.k (.bool false))))] (.seq (.draw [(ee 7 3 1),(eb 8 7),(eb 9 2),(d7 10 6 8 9),(ec 11 6 10),(ec 12 5 5),(d3 13 48 [11,12]),(eb 14 3),(eb 15 4),(eo 16 (.agg (zs 2) [(0,1,(.t 14)),(1,1,(.t 15))])),(d3 17 49 [13,16]),(ea 6 17)]) .ret))⟩
def s48 : SFun := ⟨42,[.cell 4 (some 9)],(rg [(so 2 (.box 100 (.t 0))),(so 3 (.box 57 (.t 1))),(so 4 (.new 97 [(.int .i64 0),(.int .i64 0),(.int .i64 0),(.int .i64 0),(.int .i64 0),(.int .i64 0),(.int .i64 0),(.int .i64 0),(.bool false)]))] (.seq (.draw [(ee 5 1 2),(eb 6 5),(ee 7 2 2),(eb 8 7),(eo 9 (.agg (zs 2) [(0,1,(.t 6)),(1,1,(.t 8))])),(ee 10 3 2),(eb 11 10),(ee 12 3 2),(eb 13 12),(ee 14 4 3),(eb 15 14),(d1 16 .sub 13 15),(eo 17 (.mm true (ki 0) [(.t 16)])),(ee 18 3 2),(eb 19 18),(ee 20 3 3),(eb 21 20),(d1 22 .sub 19 21),(ee 23 0 3),(eb 24 23),(ee 25 1 3),(eb 26 25),(eo 27 (.agg (zs 2) [(0,1,(.t 24)),(1,1,(.t 26))])),(ee 28 3 2),(eb 29 28),(d3 30 101 [27,29]),(ee 31 2 3),(eb 32 31),(ee 33 3 2),(eb 34 33),(d1 35 .mul 32 34),(ee 36 3 3),(eb 37 36),(ee 38 3 2),(eb 39 38),(d1 40 .gtr 37 39),(eo 41 (.agg [(.int .i64 0),(.int .i64 0),(.int .i64 0),(.int .i64 0),(.int .i64 0),(.int .i64 0),(.int .i64 0),(.int .i64 0),(.bool false)] [(0,2,(.t 9)),(2,1,(.t 11)),(3,1,(.t 17)),(4,1,(.t 22)),(5,2,(.t 30)),(7,1,(.t 35)),(8,1,(.t 40))])),⟨(b8 9 4 41),none,[],[.slot 4]⟩]) .ret))⟩
def s49 : SFun := ⟨26,[.tmp 4],(rg [(so 2 (.box 97 (.t 0))),(so 3 (.box 95 (.t 1))),(so 4 (.mov (.k (.bool false))))] (.seq (.draw [(ee 5 8 2),(eb 6 5),(eo 7 (.un .not (.t 6))),(ea 8 7),(dz ⟨(some 9),.lds 9 (.t 2),(some (8,true))⟩),(dz ⟨(some 10),.lds 2 (.t 3),(some (8,true))⟩),(dz ⟨(some 11),.fa 3 (.t 2),(some (8,true))⟩),(dz ⟨(some 12),.ld (.t 11),(some (8,true))⟩),(dz ⟨(some 13),.call 102 [(.t 9),(.t 10),(.t 12)],(some (8,true))⟩),(dz ⟨(some 14),.lds 9 (.t 2),(some (8,true))⟩),(dz ⟨(some 15),.lds 2 (.t 3),(some (8,true))⟩),(dz ⟨(some 16),.fa 4 (.t 2),(some (8,true))⟩),(dz ⟨(some 17),.ld (.t 16),(some (8,true))⟩),(dz ⟨(some 18),.call 102 [(.t 14),(.t 15),(.t 17)],(some (8,true))⟩),(dz ⟨(some 19),.agg (zs 4) [(0,2,(.t 13)),(2,2,(.t 18))],(some (8,true))⟩),(dz ⟨(some 20),.fa 5 (.t 2),(some (8,true))⟩),(dz ⟨(some 21),.lds 2 (.t 20),(some (8,true))⟩),(dz ⟨(some 22),.fa 7 (.t 2),(some (8,true))⟩),(dz ⟨(some 23),.ld (.t 22),(some (8,true))⟩),(dz ⟨(some 24),.call 103 [(.t 19),(.t 21),(.t 23)],(some (8,true))⟩),(eo 25 (.pick (.t 8) (.t 24) (.k (.bool false)))),(ea 4 25)]) .ret))⟩
def s53 : SFun := ⟨27,[.tmp 2],(rg [(so 1 (.box 29 (.t 0))),(so 2 (.mov (.k (.bool false))))] (rg [(se 3 0 1),(sb 4 3),(se 5 1 1),(sb 6 5),(se 7 2 1),(sb 8 7),(se 9 3 1),(sb 10 9),(so 11 (.bsl 3 4 (zs 4) [(0,1,(.t 4)),(1,1,(.t 6)),(2,1,(.t 8)),(3,1,(.t 10))])),(b3 12 45 [11]),(sa 13 12),⟨(some 14),.fa 0 (.t 1),(some (13,false))⟩,⟨(some 15),.ld (.t 14),(some (13,false))⟩,⟨(some 16),.fa 2 (.t 1),(some (13,false))⟩,⟨(some 17),.ld (.t 16),(some (13,false))⟩,⟨(some 18),.bin .gtr (.t 15) (.t 17),(some (13,false))⟩,(so 19 (.pick (.t 13) (.k (.bool true)) (.t 18))),(sa 20 19),⟨(some 21),.fa 1 (.t 1),(some (20,false))⟩,⟨(some 22),.ld (.t 21),(some (20,false))⟩,⟨(some 23),.fa 3 (.t 1),(some (20,false))⟩,⟨(some 24),.ld (.t 23),(some (20,false))⟩,⟨(some 25),.bin .gtr (.t 22) (.t 24),(some (20,false))⟩,(so 26 (.pick (.t 20) (.k (.bool true)) (.t 25))),(sa 2 26)] .ret))⟩
def s54 : SFun := ⟨24,[.cell 2 (some 8)],(rg [(so 1 (.box 29 (.t 0))),(so 2 (.new 108 (zs 8)))] (rg [(se 3 0 1),(sb 4 3),(se 5 1 1),(sb 6 5),(so 7 (.agg (zs 2) [(0,1,(.t 4)),(1,1,(.t 6))])),(se 8 2 1),(sb 9 8),(se 10 1 1),(sb 11 10),(so 12 (.agg (zs 2) [(0,1,(.t 9)),(1,1,(.t 11))])),(se 13 2 1),(sb 14 13),(se 15 3 1),(sb 16 15),(so 17 (.agg (zs 2) [(0,1,(.t 14)),(1,1,(.t 16))])),(se 18 0 1),(sb 19 18),(se 20 3 1),(sb 21 20),(so 22 (.agg (zs 2) [(0,1,(.t 19)),(1,1,(.t 21))])),(so 23 (.agg (zs 8) [(0,2,(.t 7)),(2,2,(.t 12)),(4,2,(.t 17)),(6,2,(.t 22))])),(b8 8 2 23)] .ret))⟩
def s55 : SFun := ⟨9,[.tmp 4],(rg [(so 4 (.mov (.k (.bool false))))] (rg [(sa 5 0),(sa 6 1),(b3 7 108 [5,6]),(b2 8 .geq 7 0),(sa 4 8)] .ret))⟩
def s56 : SFun := ⟨8,[.tmp 3],(rg [(so 2 (.box 95 (.t 0))),(so 3 (.mov (.k (.bool false))))] (rg [(sc 4 9 1),(sc 5 2 2),(b3 6 49 [4,5]),(b5 7 6),(sa 3 7)] .ret))⟩
def s57 : SFun := ⟨71,[.tmp 4],(rg [(so 2 (.box 97 (.t 0))),(so 3 (.box 29 (.t 1))),(so 4 (.mov (.k (.bool false))))] (.seq (rg [(se 12 8 2),(sb 13 12)] (.cond (.t 13) (rg [(so 4 (.mov (.k (.bool false))))] .ret) .skip)) (rg [(so 5 (.mov (.k (.slice none 0 0))))] (.seq (rg [(sc 14 4 3),(b3 15 54 [14]),(b6 16 0)] (.block 0 (.loop (rg [(b2 17 .lss 16 4)] (.seq (.cond (.t 17) .skip (.exit 0)) (.seq (.block 1 (rg [(so 18 (.ixA 4 2 (some 2) (.t 15) (.t 16))),(so 7 (.new 95 (zs 2))),(b8 2 7 18)] (.draw [⟨(sa 19 5),none,[11],[]⟩,(ec 20 9 2),(ec 21 2 7),(ee 22 3 2),(eb 23 22),(d3 24 102 [20,21,23]),(ec 25 9 2),(ec 26 2 7),(ee 27 4 2),(eb 28 27),(d3 29 102 [25,26,28]),⟨(so 30 (.bsl 95 2 (zs 4) [(0,2,(.t 24)),(2,2,(.t 29))])),(some 0),[],[.fresh 0]⟩,⟨(so 31 (.app 95 2 16 (zs 2) (.t 19) (.t 30))),(some 1),[],[.slot 5,.fresh 1]⟩,(ea 5 31)]))) (.reg [(b2 32 .add 16 1),(sa 16 32)]))))))) (rg [(sa 33 5),(b3 34 109 [33]),(sa 5 34)] (rg [(sa 35 5),(b4 36 35),(b2 37 .gtr 36 2),(sa 8 37)] (.seq (rg [(sa 38 5),(b4 39 38),(b6 40 0)] (.block 2 (.loop (rg [(b1 41 .lss 40 39)] (.seq (.cond (.t 41) .skip (.exit 2)) (.seq (.block 3 (rg [(sa 42 40),(b7 43 2 38 40),(sc 44 2 43),(so 10 (.new 95 (zs 2))),(sa 9 42),(b8 2 10 44)] (.seq (.draw [⟨(sc 45 2 10),none,[10],[]⟩,⟨(sa 46 5),none,[10],[]⟩,⟨(sa 47 9),none,[10],[]⟩,⟨(b2 48 .add 47 1),none,[10],[]⟩,⟨(sa 49 5),none,[10],[]⟩,⟨(b4 50 49),none,[10],[]⟩,⟨(b1 51 .rem 48 50),none,[10],[]⟩,⟨(b7 52 2 46 51),none,[10],[]⟩,⟨(sc 53 2 52),none,[10],[]⟩,⟨(so 54 (.agg (zs 4) [(0,2,(.t 45)),(2,2,(.t 53))])),none,[10],[]⟩,⟨(so 11 (.new 133 (zs 4))),(some 0),[],[.fresh 0]⟩,⟨(b8 4 11 54),none,[],[.fresh 0]⟩]) (.seq (rg [(sc 55 4 11),(se 56 5 2),(sc 57 2 56),(se 58 7 2),(sb 59 58),(b3 60 103 [55,57,59])] (.cond (.t 60) (rg [(so 4 (.mov (.k (.bool true))))] .ret) .skip)) (.reg [(sa 61 8),(sa 62 61),⟨(some 63),.lds 4 (.t 11),(some (62,true))⟩,⟨(some 64),.fa 5 (.t 2),(some (62,true))⟩,⟨(some 65),.lds 2 (.t 64),(some (62,true))⟩,⟨(some 66),.call 78 [(.t 63),(.t 65)],(some (62,true))⟩,⟨(some 67),.bin .gtr (.t 66) (ki 0),(some (62,true))⟩,(so 68 (.pick (.t 62) (.t 67) (.k (.bool false)))),(sa 8 68)]))))) (.reg [(b2 69 .add 40 1),(sa 40 69)]))))))) (rg [(sa 70 8),(sa 4 70)] .ret))))))))⟩
def s61 : SFun := ⟨16,[.tmp 4],(rg [(so 2 (.box 54 (.t 0))),(so 3 (.box 29 (.t 1))),(b6 4 0)] (rg [(so 5 (.new 3 [(.int .i64 0)])),⟨none,.st 1 (.t 5) (ki 0),none⟩] (.seq (rg [(sc 7 4 2),(b3 8 83 [7])] (.block 0 (.range (.t 8) [9] (.reg [(so 6 (.new 145 (zs 5))),(b8 5 6 9)]) (.block 1 (.draw [(eb 10 5),(ec 11 5 6),(ec 12 4 3),(d3 13 111 [11,12]),(eo 14 (.mm true (.t 10) [(.t 13)])),⟨(b8 1 5 14),none,[],[.slot 5]⟩])) its))) (rg [(sb 15 5),(sa 4 15)] .ret))))⟩
def s62 : SFun := ⟨27,[.tmp 4,.tmp 5],(rg [(b6 4 0),(b6 5 0)] (.seq (rg [(sa 9 0),(b4 10 9),(b6 11 0)] (.block 0 (.loop (rg [(b1 12 .lss 11 10)] (.seq (.cond (.t 12) .skip (.exit 0)) (.seq (.block 1 (rg [(sa 13 11),(b7 14 4 9 11),(sc 15 4 14),(so 7 (.new 54 [(.str ⟨#[]⟩),(.int .i64 0),(.slice none 0 0),(.int .i64 0)])),(sa 6 13),(b8 4 7 15)] (.seq (.draw [(ea 16 1),(ea 17 0),(ea 18 6),(eo 19 (.slS 4 (.t 17) none (some (.t 18)) none)),(ec 20 4 7),(eo 21 (.callv (.t 16) [(.t 19),(.t 20)])),(ea 8 21)]) (rg [(sa 22 8),(b2 23 .neq 22 0)] (.cond (.t 23) (rg [(sa 24 6),(sa 25 8),(sa 4 24),(sa 5 25)] .ret) .skip))))) (.reg [(b2 26 .add 11 1),(sa 11 26)]))))))) (rg [(b6 4 0),(b6 5 0)] .ret)))⟩
def s63 : SFun := ⟨61,[.tmp 4],(rg [(so 3 (.box 54 (.t 1))),(b6 4 0)] (rg [(so 7 (.mkf (.func 112) [] [(.t 3)])),(sa 5 7)] (rg [(so 6 (.mov (.k (.fn (.func 113) [] []))))] (.seq (.block 0 (rg [(se 9 0 3),(sb 10 9),(b3 11 114 [10]),(b5 12 11),(sa 8 12)] (.cond (.t 8) (rg [(b6 4 6)] .ret) (rg [(sa 14 0),(sa 15 5),(b3 16 90 [14,15]),(sa 13 16)] (.cond (.t 13) (rg [(b6 4 5)] .ret) (rg [(se 18 1 3),(sb 19 18),(so 20 (.call 86 [(.t 19),(ki 0),(ki 3)])),(sa 17 20)] (.cond (.t 17) (rg [(b6 4 2)] .ret) (rg [(se 22 2 3),(sb 23 22),(b4 24 23),(b2 25 .lss 24 2),(sa 21 25)] (.cond (.t 21) (rg [(b6 4 4)] .ret) (rg [(se 27 2 3),(sb 28 27),(b4 29 28),(b2 30 .gtr 29 8),(sa 26 30)] (.cond (.t 26) (rg [(b6 4 3)] .ret) (rg [(se 32 2 3),(sb 33 32),(sa 34 6),(b3 35 115 [33,34]),(sa 36 35),⟨(some 37),.fa 3 (.t 3),(some (36,false))⟩,⟨(some 38),.ld (.t 37),(some (36,false))⟩,⟨(some 39),.call 86 [(.t 38),(ki 100),(ki 30000)],(some (36,false))⟩,(so 40 (.pick (.t 36) (.k (.bool true)) (.t 39))),(sa 31 40)] (.cond (.t 31) (rg [(b6 4 7)] .ret) (.seq (.allo (.op (se 42 2 3) (.op (se 47 2 3) (.alt (.op (sb 43 42) (.alt (.op (b3 44 117 [43]) (.alt (.op (b3 45 116 [44]) (.op (b4 46 45) (.op (sb 48 47) (.op (b4 49 48) (.op (b1 50 .lss 46 49) (.op (sa 41 50) .done)))))) (.op (sb 48 47) (.op (b4 49 48) (.op (b3 45 116 [44]) (.op (b4 46 45) (.op (b1 50 .lss 46 49) (.op (sa 41 50) .done)))))))) (.op (sb 48 47) (.op (b4 49 48) (.op (b3 44 117 [43]) (.op (b3 45 116 [44]) (.op (b4 46 45) (.op (b1 50 .lss 46 49) (.op (sa 41 50) .done))))))))) (.op (sb 48 47) (.op (b4 49 48) (.op (sb 43 42) (.op (b3 44 117 [43]) (.op (b3 45 116 [44]) (.op (b4 46 45) (.op (b1 50 .lss 46 49) (.op (sa 41 50) .done)))))))))))) (.cond (.t 41) (rg [(b6 4 2)] .ret) (rg [(se 52 1 3),(sb 53 52),(b2 54 .eql 53 3),(sa 55 54),⟨(some 56),.fa 2 (.t 3),(some (55,true))⟩,⟨(some 57),.ld (.t 56),(some (55,true))⟩,⟨(some 58),.len (.t 57),(some (55,true))⟩,⟨(some 59),.bin .gtr (.t 58) (ki 2),(some (55,true))⟩,(so 60 (.pick (.t 55) (.t 59) (.k (.bool false)))),(sa 51 60)] (.cond (.t 51) (rg [(b6 4 2)] .ret) .skip))))))))))))))))) (rg [(b6 4 0)] .ret)))))⟩
def s64 : SFun := ⟨27,[.tmp 4,.tmp 5],(rg [(b6 4 0),(b6 5 0)] (.seq (rg [(sa 9 0),(b4 10 9),(b6 11 0)] (.block 0 (.loop (rg [(b1 12 .lss 11 10)] (.seq (.cond (.t 12) .skip (.exit 0)) (.seq (.block 1 (rg [(sa 13 11),(b7 14 5 9 11),(sc 15 5 14),(so 7 (.new 57 (zs 5))),(sa 6 13),(b8 5 7 15)] (.seq (.draw [(ea 16 1),(ea 17 0),(ea 18 6),(eo 19 (.slS 5 (.t 17) none (some (.t 18)) none)),(ec 20 5 7),(eo 21 (.callv (.t 16) [(.t 19),(.t 20)])),(ea 8 21)]) (rg [(sa 22 8),(b2 23 .neq 22 0)] (.cond (.t 23) (rg [(sa 24 6),(sa 25 8),(sa 4 24),(sa 5 25)] .ret) .skip))))) (.reg [(b2 26 .add 11 1),(sa 11 26)]))))))) (rg [(b6 4 0),(b6 5 0)] .ret)))⟩
def s65 : SFun := ⟨29,[.tmp 4],(rg [(so 3 (.box 57 (.t 1))),(b6 4 0)] (.seq (rg [(se 5 0 3),(sb 6 5),(se 7 1 3),(sb 8 7),(so 9 (.bsl 3 2 (zs 2) [(0,1,(.t 6)),(1,1,(.t 8))])),(b3 10 45 [9]),(sa 11 10),⟨(some 12),.fa 2 (.t 3),(some (11,false))⟩,⟨(some 13),.ld (.t 12),(some (11,false))⟩,⟨(some 14),.call 86 [(.t 13),(ki 1),(ki 20000)],(some (11,false))⟩,(so 15 (.pick (.t 11) (.k (.bool true)) (.t 14))),(sa 16 15),⟨(some 17),.fa 3 (.t 3),(some (16,false))⟩,⟨(some 18),.ld (.t 17),(some (16,false))⟩,⟨(some 19),.fa 4 (.t 3),(some (16,false))⟩,⟨(some 20),.ld (.t 19),(some (16,false))⟩,⟨(some 21),.bin .sub (.t 20) (ki 1),(some (16,false))⟩,⟨(some 22),.call 86 [(.t 18),(ki 0),(.t 21)],(some (16,false))⟩,(so 23 (.pick (.t 16) (.k (.bool true)) (.t 22))),(sa 24 23),⟨(some 25),.fa 4 (.t 3),(some (24,false))⟩,⟨(some 26),.ld (.t 25),(some (24,false))⟩,⟨(some 27),.call 86 [(.t 26),(ki 1),(ki 1000)],(some (24,false))⟩,(so 28 (.pick (.t 24) (.k (.bool true)) (.t 27)))] (.cond (.t 28) (rg [(b6 4 7)] .ret) .skip)) (rg [(b6 4 0)] .ret)))⟩
def s66 : SFun := ⟨27,[.tmp 4,.tmp 5],(rg [(b6 4 0),(b6 5 0)] (.seq (rg [(sa 9 0),(b4 10 9),(b6 11 0)] (.block 0 (.loop (rg [(b1 12 .lss 11 10)] (.seq (.cond (.t 12) .skip (.exit 0)) (.seq (.block 1 (rg [(sa 13 11),(b7 14 5 9 11),(sc 15 5 14),(so 7 (.new 123 [(.int .i64 0),(.int .i64 0),(.int .i64 0),(.int .i64 0),(.slice none 0 0)])),(sa 6 13),(b8 5 7 15)] (.seq (.draw [(ea 16 1),(ea 17 0),(ea 18 6),(eo 19 (.slS 5 (.t 17) none (some (.t 18)) none)),(ec 20 5 7),(eo 21 (.callv (.t 16) [(.t 19),(.t 20)])),(ea 8 21)]) (rg [(sa 22 8),(b2 23 .neq 22 0)] (.cond (.t 23) (rg [(sa 24 6),(sa 25 8),(sa 4 24),(sa 5 25)] .ret) .skip))))) (.reg [(b2 26 .add 11 1),(sa 11 26)]))))))) (rg [(b6 4 0),(b6 5 0)] .ret)))⟩
def s67 : SFun := ⟨37,[.tmp 4],(rg [(so 3 (.box 123 (.t 1))),(b6 4 0)] (rg [(so 5 (.mov (.k (.fn (.func 118) [] []))))] (.seq (.block 0 (rg [(se 7 0 3),(so 8 (.iaA 2 1 (.t 7) (ki 0))),(sb 9 8),(se 10 0 3),(so 11 (.iaA 2 1 (.t 10) (ki 1))),(sb 12 11),(se 13 2 3),(so 14 (.iaA 2 1 (.t 13) (ki 0))),(sb 15 14),(se 16 2 3),(so 17 (.iaA 2 1 (.t 16) (ki 1))),(sb 18 17),(so 19 (.bsl 3 4 (zs 4) [(0,1,(.t 9)),(1,1,(.t 12)),(2,1,(.t 15)),(3,1,(.t 18))])),(b3 20 45 [19]),(sa 6 20)] (.cond (.t 6) (rg [(b6 4 7)] .ret) (rg [(se 22 0 3),(sc 23 2 22),(se 24 2 3),(sc 25 2 24),(so 26 (.eqa false 2 (.t 23) (.t 25))),(sa 21 26)] (.cond (.t 21) (rg [(b6 4 2)] .ret) (rg [(se 28 4 3),(sb 29 28),(b4 30 29),(b2 31 .gtr 30 6),(sa 27 31)] (.cond (.t 27) (rg [(b6 4 3)] .ret) (rg [(se 33 4 3),(sb 34 33),(sa 35 5),(b3 36 119 [34,35]),(sa 32 36)] (.cond (.t 32) (rg [(b6 4 7)] .ret) .skip))))))))) (rg [(b6 4 0)] .ret))))⟩
def s68 : SFun := ⟨27,[.tmp 4,.tmp 5],(rg [(b6 4 0),(b6 5 0)] (.seq (rg [(sa 9 0),(b4 10 9),(b6 11 0)] (.block 0 (.loop (rg [(b1 12 .lss 11 10)] (.seq (.cond (.t 12) .skip (.exit 0)) (.seq (.block 1 (rg [(sa 13 11),(b7 14 6 9 11),(sc 15 6 14),(so 7 (.new 100 [(.str ⟨#[]⟩),(.int .i64 0),(.int .i64 0),(.int .i64 0),(.int .i64 0),(.int .i64 0)])),(sa 6 13),(b8 6 7 15)] (.seq (.draw [(ea 16 1),(ea 17 0),(ea 18 6),(eo 19 (.slS 6 (.t 17) none (some (.t 18)) none)),(ec 20 6 7),(eo 21 (.callv (.t 16) [(.t 19),(.t 20)])),(ea 8 21)]) (rg [(sa 22 8),(b2 23 .neq 22 0)] (.cond (.t 23) (rg [(sa 24 6),(sa 25 8),(sa 4 24),(sa 5 25)] .ret) .skip))))) (.reg [(b2 26 .add 11 1),(sa 11 26)]))))))) (rg [(b6 4 0),(b6 5 0)] .ret)))⟩
def s69 : SFun := ⟨47,[.tmp 4],(rg [(so 3 (.box 100 (.t 1))),(b6 4 0)] (rg [(so 6 (.mkf (.func 120) [] [(.t 3)])),(sa 5 6)] (.seq (.block 0 (rg [(se 8 0 3),(sb 9 8),(b3 10 114 [9]),(b5 11 10),(sa 7 11)] (.cond (.t 7) (rg [(b6 4 6)] .ret) (rg [(sa 13 0),(sa 14 5),(b3 15 121 [13,14]),(sa 12 15)] (.cond (.t 12) (rg [(b6 4 5)] .ret) (rg [(se 17 1 3),(sb 18 17),(se 19 2 3),(sb 20 19),(so 21 (.bsl 3 2 (zs 2) [(0,1,(.t 18)),(1,1,(.t 20))])),(b3 22 45 [21]),(sa 23 22),⟨(some 24),.fa 3 (.t 3),(some (23,false))⟩,⟨(some 25),.ld (.t 24),(some (23,false))⟩,⟨(some 26),.call 86 [(.t 25),(ki 1),(ki 200)],(some (23,false))⟩,(so 27 (.pick (.t 23) (.k (.bool true)) (.t 26))),(sa 28 27),⟨(some 29),.fa 4 (.t 3),(some (28,false))⟩,⟨(some 30),.ld (.t 29),(some (28,false))⟩,⟨(some 31),.call 86 [(.t 30),(ki (-1000)),(ki 1000)],(some (28,false))⟩,(so 32 (.pick (.t 28) (.k (.bool true)) (.t 31))),(sa 33 32),⟨(some 34),.fa 5 (.t 3),(some (33,false))⟩,⟨(some 35),.ld (.t 34),(some (33,false))⟩,⟨(some 36),.call 86 [(.t 35),(ki (-1000)),(ki 1000)],(some (33,false))⟩,(so 37 (.pick (.t 33) (.k (.bool true)) (.t 36))),(sa 16 37)] (.cond (.t 16) (rg [(b6 4 7)] .ret) (rg [(se 39 4 3),(sb 40 39),(b2 41 .eql 40 0),(sa 42 41),⟨(some 43),.fa 5 (.t 3),(some (42,true))⟩,⟨(some 44),.ld (.t 43),(some (42,true))⟩,⟨(some 45),.bin .eql (.t 44) (ki 0),(some (42,true))⟩,(so 46 (.pick (.t 42) (.t 45) (.k (.bool false)))),(sa 38 46)] (.cond (.t 38) (rg [(b6 4 2)] .ret) .skip))))))))) (rg [(b6 4 0)] .ret))))⟩
def s74 : SFun := ⟨15,[.cell 6 none],(rg [(so 3 (.box 54 (.t 0))),(so 4 (.box 3 (.t 1))),(so 5 (.box 3 (.t 2))),(so 6 (.new 4 [(.bool false)]))] (.seq (rg [(sc 8 4 3),(b3 9 83 [8])] (.block 0 (.range (.t 9) [10] (.reg [(so 7 (.new 145 (zs 5))),(b8 5 7 10)]) (.block 1 (rg [(sc 11 5 7),(sb 12 4),(sb 13 5),(b3 14 123 [11,12,13])] (.cond (.t 14) (rg [⟨none,.st 1 (.t 6) (.k (.bool true)),none⟩] .ret) .skip))) its))) (rg [⟨none,.st 1 (.t 6) (.k (.bool false)),none⟩] .ret)))⟩
def s78 : SFun := ⟨15,[.tmp 4],(rg [(so 2 (.box 133 (.t 0))),(so 3 (.box 95 (.t 1))),(b6 4 0)] (.seq (.draw [(ee 5 2 2),(ec 6 2 5),(ee 7 0 2),(ec 8 2 7),(d3 9 84 [6,8]),(ec 10 2 3),(ee 11 0 2),(ec 12 2 11),(d3 13 84 [10,12]),(d3 14 127 [9,13]),(ea 4 14)]) .ret))⟩
def s83 : SFun := ⟨4,[.tmp 2],(rg [(so 1 (.box 54 (.t 0))),(so 2 (.mov (.k (.raw .nilFunc))))] (rg [(so 3 (.mkf (.func 128) [] [(.t 1)])),(sa 2 3)] .ret))⟩
def s84 : SFun := ⟨16,[.cell 4 (some 2)],(rg [(so 2 (.box 95 (.t 0))),(so 3 (.box 95 (.t 1))),(so 4 (.new 95 (zs 2)))] (rg [(se 5 0 2),(sb 6 5),(se 7 0 3),(sb 8 7),(b1 9 .sub 6 8),(se 10 1 2),(sb 11 10),(se 12 1 3),(sb 13 12),(b1 14 .sub 11 13),(so 15 (.agg (zs 2) [(0,1,(.t 9)),(1,1,(.t 14))])),(b8 2 4 15)] .ret))⟩
def s85 : SFun := ⟨16,[.tmp 4],(rg [(so 2 (.box 95 (.t 0))),(so 3 (.box 95 (.t 1))),(b6 4 0)] (rg [(se 5 0 2),(sb 6 5),(se 7 0 3),(sb 8 7),(b1 9 .mul 6 8),(se 10 1 2),(sb 11 10),(se 12 1 3),(sb 13 12),(b1 14 .mul 11 13),(b1 15 .add 9 14),(sa 4 15)] .ret))⟩
def s86 : SFun := ⟨15,[.tmp 6],(rg [(so 6 (.mov (.k (.bool false))))] (rg [(sa 7 0),(sa 8 1),(b1 9 .lss 7 8),(sa 10 9),⟨(some 11),.mov (.t 0),(some (10,false))⟩,⟨(some 12),.mov (.t 2),(some (10,false))⟩,⟨(some 13),.bin .gtr (.t 11) (.t 12),(some (10,false))⟩,(so 14 (.pick (.t 10) (.k (.bool true)) (.t 13))),(sa 6 14)] .ret))⟩
def s90 : SFun := ⟨9,[.tmp 4],(rg [(so 4 (.mov (.k (.bool false))))] (rg [(sa 5 0),(sa 6 1),(b3 7 129 [5,6]),(b2 8 .geq 7 0),(sa 4 8)] .ret))⟩
def s99 : SFun := ⟨9,[.tmp 4],(rg [(so 4 (.mov (.k (.bool false))))] (rg [(sa 5 0),(sa 6 1),(b3 7 133 [5,6]),(b2 8 .geq 7 0),(sa 4 8)] .ret))⟩
def s100 : SFun := ⟨5,[.tmp 2],(rg [(so 2 (.mov (.k (.bool false))))] (rg [(sa 3 0),(so 4 (.call 86 [(.t 3),(ki (-100000)),(ki 100000)])),(sa 2 4)] .ret))⟩
def s101 : SFun := ⟨14,[.cell 4 (some 2)],(rg [(so 2 (.box 95 (.t 0))),(so 4 (.new 95 (zs 2)))] (rg [(sa 5 1),(se 6 0 2),(sb 7 6),(b1 8 .mul 5 7),(sa 9 1),(se 10 1 2),(sb 11 10),(b1 12 .mul 9 11),(so 13 (.agg (zs 2) [(0,1,(.t 8)),(1,1,(.t 12))])),(b8 2 4 13)] .ret))⟩
def s102 : SFun := ⟨35,[.cell 6 (some 2)],(rg [(so 3 (.box 97 (.t 0))),(so 4 (.box 95 (.t 1))),(so 6 (.new 95 (zs 2)))] (rg [(sc 8 2 4),(se 9 0 3),(sc 10 2 9),(b3 11 84 [8,10]),(so 7 (.new 95 (zs 2))),(b8 2 7 11)] (rg [(se 12 2 3),(sb 13 12),(se 14 0 3),(se 15 0 14),(sb 16 15),(b1 17 .mul 13 16),(sa 18 2),(se 19 0 7),(sb 20 19),(b1 21 .mul 18 20),(b1 22 .add 17 21),(se 23 2 3),(sb 24 23),(se 25 0 3),(se 26 1 25),(sb 27 26),(b1 28 .mul 24 27),(sa 29 2),(se 30 1 7),(sb 31 30),(b1 32 .mul 29 31),(b1 33 .add 28 32),(so 34 (.agg (zs 2) [(0,1,(.t 22)),(1,1,(.t 33))])),(b8 2 6 34)] .ret)))⟩
def s103 : SFun := ⟨69,[.tmp 6],(rg [(so 3 (.box 133 (.t 0))),(so 4 (.box 95 (.t 1))),(so 6 (.mov (.k (.bool false))))] (.seq (.draw [⟨(se 13 2 3),none,[9,10],[]⟩,⟨(sc 14 2 13),none,[9,10],[]⟩,⟨(se 15 0 3),none,[9,10],[]⟩,⟨(sc 16 2 15),none,[9,10],[]⟩,⟨(b3 17 84 [14,16]),none,[9,10],[]⟩,⟨(sc 18 2 4),none,[9,10],[]⟩,⟨(se 19 0 3),none,[9,10],[]⟩,⟨(sc 20 2 19),none,[9,10],[]⟩,⟨(b3 21 84 [18,20]),none,[9,10],[]⟩,⟨(so 7 (.new 95 (zs 2))),(some 0),[10],[.fresh 0]⟩,⟨(so 8 (.new 95 (zs 2))),(some 1),[9],[.fresh 1]⟩,⟨(b8 2 7 17),none,[],[.fresh 0]⟩,⟨(b8 2 8 21),none,[],[.fresh 1]⟩]) (.seq (.draw [(ec 22 2 8),(ec 23 2 7),(d3 24 85 [22,23]),(ec 25 2 7),(ec 26 2 7),(d3 27 85 [25,26]),(ea 9 24),(ea 10 27)]) (.block 0 (rg [(sa 45 9),(b2 46 .leq 45 0),(sa 44 46)] (.cond (.t 44) (rg [(sc 47 2 8),(sc 48 2 8),(b3 49 85 [47,48]),(sa 50 2),(sa 51 2),(b1 52 .mul 50 51),(b1 53 .leq 49 52),(sa 6 53)] .ret) (rg [(sa 55 9),(sa 56 10),(b1 57 .geq 55 56),(sa 54 57)] (.cond (.t 54) (rg [(sc 58 2 4),(se 59 2 3),(sc 60 2 59),(b3 61 84 [58,60]),(so 11 (.new 95 (zs 2))),(b8 2 11 61)] (rg [(sc 62 2 11),(sc 63 2 11),(b3 64 85 [62,63]),(sa 65 2),(sa 66 2),(b1 67 .mul 65 66),(b1 68 .leq 64 67),(sa 6 68)] .ret)) (rg [(sc 28 2 7),(sc 29 2 8),(b3 30 127 [28,29]),(sa 12 30)] (rg [(sa 31 12),(sa 32 12),(so 33 (.un .neg (.t 32))),(so 34 (.mm true (.t 31) [(.t 33)])),(sa 12 34)] (rg [(sa 35 12),(sa 36 12),(b3 37 134 [35,36]),(sa 38 2),(sa 39 2),(b1 40 .mul 38 39),(sa 41 10),(b3 42 134 [40,41]),(b3 43 135 [37,42]),(sa 6 43)] .ret)))))))))))⟩
def s108 : SFun := ⟨19,[.tmp 4],(rg [(b6 4 0)] (.seq (rg [(sa 6 0),(b4 7 6),(b6 8 0)] (.block 0 (.loop (rg [(b1 9 .lss 8 7)] (.seq (.cond (.t 9) .skip (.exit 0)) (.seq (.block 1 (rg [(sa 10 8),(sa 5 10)] (rg [(sa 11 1),(sa 12 0),(sa 13 5),(b7 14 2 12 13),(sc 15 2 14),(so 16 (.callv (.t 11) [(.t 15)]))] (.cond (.t 16) (rg [(sa 17 5),(sa 4 17)] .ret) .skip)))) (.reg [(b2 18 .add 8 1),(sa 8 18)]))))))) (rg [(b6 4 (-1))] .ret)))⟩
def s109 : SFun := ⟨23,[.tmp 2],(rg [(so 2 (.mov (.k (.slice none 0 0))))] (rg [(sa 5 0),(so 6 (.call 139 [(.t 5),(.k (.fn (.func 140) [] []))]))] (rg [(sa 7 0),(b3 8 141 [7]),(sa 0 8)] (.seq (rg [(sa 9 0),(b4 10 9),(b2 11 .lss 10 3)] (.cond (.t 11) (rg [(sa 12 0),(sa 2 12)] .ret) .skip)) (rg [(so 3 (.new 111 [(.slice none 0 0)]))] (rg [(so 13 (.mkf (.func 142) [] [(.t 3)])),(sa 4 13)] (rg [(sa 14 4),(sa 15 0),(so 16 (.callv (.t 14) [(.t 15)]))] (rg [(sa 17 0),(b3 18 143 [17])] (rg [(sa 19 4),(sa 20 0),(so 21 (.callv (.t 19) [(.t 20)]))] (rg [(sb 22 3),(sa 2 22)] .ret))))))))))⟩
def s111 : SFun := ⟨81,[.tmp 4],(rg [(so 2 (.box 145 (.t 0))),(so 3 (.box 29 (.t 1))),(b6 4 0)] (rg [(b6 5 0)] (.seq (rg [(sc 11 4 3),(b3 12 54 [11]),(b6 13 0)] (.block 0 (.loop (rg [(b2 14 .lss 13 4)] (.seq (.cond (.t 14) .skip (.exit 0)) (.seq (.block 1 (rg [(so 15 (.ixA 4 2 (some 2) (.t 12) (.t 13))),(so 7 (.new 95 (zs 2))),(b8 2 7 15)] (rg [(sc 16 5 2),(se 17 0 7),(sb 18 17),(se 19 1 7),(sb 20 19),(b3 21 123 [16,18,20])] (.cond (.t 21) (.reg [(sa 22 5),(b2 23 .add 22 1),(sa 5 23)]) .skip)))) (.reg [(b2 24 .add 13 1),(sa 13 24)]))))))) (.seq (.block 2 (rg [(sa 26 5),(b2 27 .eql 26 4),(sa 25 27)] (.cond (.t 25) (rg [(b6 4 2)] .ret) (rg [(sa 29 5),(b2 30 .gtr 29 0),(sa 28 30)] (.cond (.t 28) (rg [(b6 4 1)] .ret) .skip))))) (.seq (rg [(se 31 0 2),(se 32 0 31),(sc 33 2 32),(se 34 0 2),(se 35 2 34),(sc 36 2 35),(so 37 (.agg (zs 4) [(0,2,(.t 33)),(2,2,(.t 36))])),(b6 38 0)] (.block 3 (.loop (rg [(b2 39 .lss 38 2)] (.seq (.cond (.t 39) .skip (.exit 3)) (.seq (.block 4 (rg [(so 40 (.ixA 2 2 (some 2) (.t 37) (.t 38))),(so 9 (.new 95 (zs 2))),(b8 2 9 40)] (rg [(se 41 0 3),(sb 42 41),(so 43 (.bin .mul (ki 2) (.t 42))),(se 44 0 9),(sb 45 44),(b1 46 .sub 43 45),(se 47 0 9),(sb 48 47),(se 49 2 3),(sb 50 49),(so 51 (.bin .mul (ki 2) (.t 50))),(b1 52 .sub 48 51),(so 53 (.mm true (.t 46) [(ki 0),(.t 52)])),(se 54 1 3),(sb 55 54),(so 56 (.bin .mul (ki 2) (.t 55))),(se 57 1 9),(sb 58 57),(b1 59 .sub 56 58),(se 60 1 9),(sb 61 60),(se 62 3 3),(sb 63 62),(so 64 (.bin .mul (ki 2) (.t 63))),(b1 65 .sub 61 64),(so 66 (.mm true (.t 59) [(ki 0),(.t 65)])),(so 67 (.agg (zs 2) [(0,1,(.t 53)),(1,1,(.t 66))])),(so 10 (.new 95 (zs 2))),(b8 2 10 67)] (.seq (.draw [(ec 68 2 10),(ec 69 2 10),(d3 70 85 [68,69]),(ee 71 4 2),(eb 72 71),(ee 73 4 2),(eb 74 73),(d1 75 .mul 72 74),(d1 76 .leq 70 75)]) (.cond (.t 76) (rg [(b6 4 1)] .ret) .skip))))) (.reg [(b2 77 .add 38 1),(sa 38 77)]))))))) (.seq (rg [(sc 78 5 2),(sc 79 4 3),(b3 80 145 [78,79])] (.cond (.t 80) (rg [(b6 4 1)] .ret) .skip)) (rg [(b6 4 0)] .ret)))))))⟩
def s112 : SFun := ⟨9,[.tmp 3],(rg [(so 2 (.box 54 (.t 0))),(so 3 (.mov (.k (.bool false))))] (rg [(se 4 0 2),(sb 5 4),(se 6 0 1),(sb 7 6),(b1 8 .eql 5 7),(sa 3 8)] .ret))⟩
def s113 : SFun := ⟨9,[.tmp 2],(rg [(so 1 (.box 72 (.t 0))),(so 2 (.mov (.k (.bool false))))] (rg [(so 3 (.iaA 2 1 (.t 1) (ki 0))),(sb 4 3),(so 5 (.iaA 2 1 (.t 1) (ki 1))),(sb 6 5),(so 7 (.bsl 3 2 (zs 2) [(0,1,(.t 4)),(1,1,(.t 6))])),(b3 8 45 [7]),(sa 2 8)] .ret))⟩
def s114 : SFun := ⟨27,[.tmp 2],(rg [(so 2 (.mov (.k (.bool false))))] (rg [(sa 4 0),(so 5 (.call 146 [(.t 4),(.k (.str ⟨#[97,98,99,100,101,102,103,104,105,106,107,108,109,110,111,112,113,114,115,116,117,118,119,120,121,122,48,49,50,51,52,53,54,55,56,57,45]⟩))])),(sa 3 5)] (rg [(sa 6 0),(so 7 (.bin .neq (.t 6) (.k (.str ⟨#[]⟩)))),(sa 8 7),⟨(some 9),.mov (.t 0),(some (8,true))⟩,⟨(some 10),.lenT (.t 9),(some (8,true))⟩,⟨(some 11),.bin .leq (.t 10) (ki 24),(some (8,true))⟩,(so 12 (.pick (.t 8) (.t 11) (.k (.bool false)))),(sa 13 12),⟨(some 14),.mov (.t 3),(some (13,true))⟩,⟨(some 15),.bin .eql (.t 14) (.k (.str ⟨#[]⟩)),(some (13,true))⟩,(so 16 (.pick (.t 13) (.t 15) (.k (.bool false)))),(sa 17 16),⟨(some 18),.mov (.t 0),(some (17,true))⟩,⟨(some 19),.ixS (.t 18) (ki 0),(some (17,true))⟩,⟨(some 20),.bin .geq (.t 19) (.k (.int .u8 97)),(some (17,true))⟩,(so 21 (.pick (.t 17) (.t 20) (.k (.bool false)))),(sa 22 21),⟨(some 23),.mov (.t 0),(some (22,true))⟩,⟨(some 24),.ixS (.t 23) (ki 0),(some (22,true))⟩,⟨(some 25),.bin .leq (.t 24) (.k (.int .u8 122)),(some (22,true))⟩,(so 26 (.pick (.t 22) (.t 25) (.k (.bool false)))),(sa 2 26)] .ret)))⟩
def s115 : SFun := ⟨9,[.tmp 4],(rg [(so 4 (.mov (.k (.bool false))))] (rg [(sa 5 0),(sa 6 1),(b3 7 147 [5,6]),(b2 8 .geq 7 0),(sa 4 8)] .ret))⟩
def s116 : SFun := ⟨61,[.tmp 2],(rg [(so 2 (.mov (.k (.slice none 0 0))))] (.seq (rg [(sa 6 0),(b4 7 6),(b2 8 .lss 7 2)] (.cond (.t 8) (rg [(sa 9 0),(sa 2 9)] .ret) .skip)) (.seq (rg [(b6 3 1)] (.block 0 (.loop (.seq (rg [(sa 10 3),(sa 11 0),(b4 12 11),(b1 13 .lss 10 12)] (.cond (.t 13) .skip (.exit 0))) (.seq (.block 1 (.seq (.draw [(ea 16 0),(ea 17 3),(d7 18 2 16 17),(ec 19 2 18),(ea 20 0),(ea 21 3),(d2 22 .sub 21 1),(d7 23 2 20 22),(ec 24 2 23),(eo 25 (.eqa false 2 (.t 19) (.t 24)))]) (.cond (.t 25) (rg [(sa 26 0),(sa 27 3),(so 28 (.slS 2 (.t 26) (some (.t 27)) none none)),(sa 4 28)] (.seq (rg [(b6 5 1)] (.block 2 (.loop (.seq (rg [(sa 29 5),(sa 30 4),(b4 31 30),(b1 32 .lss 29 31)] (.cond (.t 32) .skip (.exit 2))) (.seq (.block 3 (.seq (.draw [(ea 35 4),(ea 36 5),(d7 37 2 35 36),(ec 38 2 37),(ea 39 4),(ea 40 5),(d2 41 .sub 40 1),(d7 42 2 39 41),(ec 43 2 42),(eo 44 (.eqa true 2 (.t 38) (.t 43)))]) (.cond (.t 44) (rg [(sa 45 0),(sa 46 3),(sa 47 4),(sa 48 5),(b7 49 2 47 48),(sc 50 2 49),(b7 51 2 45 46),(b8 2 51 50)] (.reg [(sa 52 3),(b2 53 .add 52 1),(sa 3 53)])) .skip))) (.reg [(sa 33 5),(b2 34 .add 33 1),(sa 5 34)])))))) (rg [(sa 54 0),(sa 55 3),(so 56 (.slS 2 (.t 54) (some (.t 55)) none none)),⟨none,.clr 2 (zs 2) (.t 56),none⟩] (rg [(sa 57 0),(sa 58 3),(so 59 (.slS 2 (.t 57) none (some (.t 58)) none)),(sa 2 59)] .ret)))) .skip))) (.reg [(sa 14 3),(b2 15 .add 14 1),(sa 3 15)])))))) (rg [(sa 60 0),(sa 2 60)] .ret))))⟩
def s117 : SFun := ⟨8,[.tmp 2],(rg [(so 2 (.mov (.k (.slice none 0 0))))] (.seq (rg [(sa 3 0),(so 4 (.isn false (.t 3)))] (.cond (.t 4) (rg [(so 2 (.mov (.k (.slice none 0 0))))] .ret) .skip)) (rg [(so 5 (.bsl 72 0 [] [])),(sa 6 0),(so 7 (.app 72 2 16 (zs 2) (.t 5) (.t 6))),(sa 2 7)] .ret)))⟩
def s118 : SFun := ⟨27,[.tmp 2],(rg [(so 1 (.box 137 (.t 0))),(so 2 (.mov (.k (.bool false))))] (rg [(se 3 1 1),(sb 4 3),(so 5 (.call 86 [(.t 4),(ki 1),(ki 1000)])),(sa 6 5),⟨(some 7),.fa 0 (.t 1),(some (6,false))⟩,⟨(some 8),.ld (.t 7),(some (6,false))⟩,⟨(some 9),.fa 1 (.t 1),(some (6,false))⟩,⟨(some 10),.ld (.t 9),(some (6,false))⟩,⟨(some 11),.bin .sub (.t 10) (ki 1),(some (6,false))⟩,⟨(some 12),.call 86 [(.t 8),(ki 0),(.t 11)],(some (6,false))⟩,(so 13 (.pick (.t 6) (.k (.bool true)) (.t 12))),(sa 14 13),⟨(some 15),.fa 3 (.t 1),(some (14,false))⟩,⟨(some 16),.ld (.t 15),(some (14,false))⟩,⟨(some 17),.call 86 [(.t 16),(ki 1),(ki 1000)],(some (14,false))⟩,(so 18 (.pick (.t 14) (.k (.bool true)) (.t 17))),(sa 19 18),⟨(some 20),.fa 2 (.t 1),(some (19,false))⟩,⟨(some 21),.ld (.t 20),(some (19,false))⟩,⟨(some 22),.fa 3 (.t 1),(some (19,false))⟩,⟨(some 23),.ld (.t 22),(some (19,false))⟩,⟨(some 24),.bin .sub (.t 23) (ki 1),(some (19,false))⟩,⟨(some 25),.call 86 [(.t 21),(ki 0),(.t 24)],(some (19,false))⟩,(so 26 (.pick (.t 19) (.k (.bool true)) (.t 25))),(sa 2 26)] .ret))⟩
def s119 : SFun := ⟨9,[.tmp 4],(rg [(so 4 (.mov (.k (.bool false))))] (rg [(sa 5 0),(sa 6 1),(b3 7 148 [5,6]),(b2 8 .geq 7 0),(sa 4 8)] .ret))⟩
def s120 : SFun := ⟨9,[.tmp 3],(rg [(so 2 (.box 100 (.t 0))),(so 3 (.mov (.k (.bool false))))] (rg [(se 4 0 2),(sb 5 4),(se 6 0 1),(sb 7 6),(b1 8 .eql 5 7),(sa 3 8)] .ret))⟩
def s121 : SFun := ⟨9,[.tmp 4],(rg [(so 4 (.mov (.k (.bool false))))] (rg [(sa 5 0),(sa 6 1),(b3 7 149 [5,6]),(b2 8 .geq 7 0),(sa 4 8)] .ret))⟩
def s123 : SFun := ⟨17,[.tmp 6],(rg [(so 3 (.box 145 (.t 0))),(so 6 (.mov (.k (.bool false))))] (rg [(se 7 0 3),(sc 8 4 7),(sa 9 1),(so 10 (.bin .mul (ki 2) (.t 9))),(sa 11 2),(so 12 (.bin .mul (ki 2) (.t 11))),(so 13 (.agg (zs 2) [(0,1,(.t 10)),(1,1,(.t 12))])),(se 14 4 3),(sb 15 14),(b3 16 103 [8,13,15]),(sa 6 16)] .ret))⟩
def s127 : SFun := ⟨16,[.tmp 4],(rg [(so 2 (.box 95 (.t 0))),(so 3 (.box 95 (.t 1))),(b6 4 0)] (rg [(se 5 0 2),(sb 6 5),(se 7 1 3),(sb 8 7),(b1 9 .mul 6 8),(se 10 1 2),(sb 11 10),(se 12 0 3),(sb 13 12),(b1 14 .mul 11 13),(b1 15 .sub 9 14),(sa 4 15)] .ret))⟩
def s129 : SFun := ⟨19,[.tmp 4],(rg [(b6 4 0)] (.seq (rg [(sa 6 0),(b4 7 6),(b6 8 0)] (.block 0 (.loop (rg [(b1 9 .lss 8 7)] (.seq (.cond (.t 9) .skip (.exit 0)) (.seq (.block 1 (rg [(sa 10 8),(sa 5 10)] (rg [(sa 11 1),(sa 12 0),(sa 13 5),(b7 14 4 12 13),(sc 15 4 14),(so 16 (.callv (.t 11) [(.t 15)]))] (.cond (.t 16) (rg [(sa 17 5),(sa 4 17)] .ret) .skip)))) (.reg [(b2 18 .add 8 1),(sa 8 18)]))))))) (rg [(b6 4 (-1))] .ret)))⟩
def s131 : SFun := ⟨8,[.tmp 2],(rg [(b6 2 0)] (.seq (.cond (.k (.bool false)) (rg [(sa 3 0),(so 4 (.conv .u32 (.t 3))),(b3 5 160 [4]),(sa 2 5)] .ret) .skip) (rg [(sa 6 0),(b3 7 161 [6]),(sa 2 7)] .ret)))⟩
def s133 : SFun := ⟨19,[.tmp 4],(rg [(b6 4 0)] (.seq (rg [(sa 6 0),(b4 7 6),(b6 8 0)] (.block 0 (.loop (rg [(b1 9 .lss 8 7)] (.seq (.cond (.t 9) .skip (.exit 0)) (.seq (.block 1 (rg [(sa 10 8),(sa 5 10)] (rg [(sa 11 1),(sa 12 0),(sa 13 5),(b7 14 1 12 13),(sb 15 14),(so 16 (.callv (.t 11) [(.t 15)]))] (.cond (.t 16) (rg [(sa 17 5),(sa 4 17)] .ret) .skip)))) (.reg [(b2 18 .add 8 1),(sa 8 18)]))))))) (rg [(b6 4 (-1))] .ret)))⟩
def s134 : SFun := ⟨18,[.cell 4 (some 2)],(rg [(so 4 (.new 192 [(.int .u64 0),(.int .u64 0)]))] (rg [(sa 8 0),(so 9 (.conv .u64 (.t 8))),(sa 10 1),(so 11 (.conv .u64 (.t 10))),(b3 12 162 [9,11]),(sa 7 12),(so 13 (.ext (.t 7) 0)),(so 14 (.ext (.t 7) 1)),(sa 5 13),(sa 6 14)] (rg [(sa 15 5),(sa 16 6),(so 17 (.agg [(.int .u64 0),(.int .u64 0)] [(0,1,(.t 15)),(1,1,(.t 16))])),(b8 2 4 17)] .ret)))⟩
def s135 : SFun := ⟨29,[.tmp 4],(rg [(so 2 (.box 192 (.t 0))),(so 3 (.box 192 (.t 1))),(so 4 (.mov (.k (.bool false))))] (rg [(sc 5 2 2),(sc 6 2 3),(so 7 (.eqa false 2 (.t 5) (.t 6))),(sa 8 7),⟨(some 9),.fa 0 (.t 2),(some (8,false))⟩,⟨(some 10),.ld (.t 9),(some (8,false))⟩,⟨(some 11),.fa 0 (.t 3),(some (8,false))⟩,⟨(some 12),.ld (.t 11),(some (8,false))⟩,⟨(some 13),.bin .lss (.t 10) (.t 12),(some (8,false))⟩,(so 14 (.pick (.t 8) (.k (.bool true)) (.t 13))),(sa 15 14),⟨(some 16),.fa 0 (.t 2),(some (15,false))⟩,⟨(some 17),.ld (.t 16),(some (15,false))⟩,⟨(some 18),.fa 0 (.t 3),(some (15,false))⟩,⟨(some 19),.ld (.t 18),(some (15,false))⟩,⟨(some 20),.bin .eql (.t 17) (.t 19),(some (15,false))⟩,⟨(some 21),.mov (.t 20),(some (15,false))⟩,⟨(some 22),.fa 1 (.t 2),(some (21,true))⟩,⟨(some 23),.ld (.t 22),(some (21,true))⟩,⟨(some 24),.fa 1 (.t 3),(some (21,true))⟩,⟨(some 25),.ld (.t 24),(some (21,true))⟩,⟨(some 26),.bin .lss (.t 23) (.t 25),(some (21,true))⟩,⟨(some 27),.pick (.t 21) (.t 26) (.k (.bool false)),(some (15,false))⟩,(so 28 (.pick (.t 15) (.k (.bool true)) (.t 27))),(sa 4 28)] .ret))⟩
def s139 : SFun := ⟨14,[],(rg [(sa 5 0),(b4 6 5),(sa 4 6)] (.reg [(sa 7 0),(sa 8 4),(sa 9 4),(so 10 (.conv .u64 (.t 9))),(b3 11 131 [10]),(sa 12 1),(so 13 (.call 163 [(.t 7),(ki 0),(.t 8),(.t 11),(.t 12)]))]))⟩
def s140 : SFun := ⟨20,[.tmp 4],(rg [(so 2 (.box 95 (.t 0))),(so 3 (.box 95 (.t 1))),(b6 4 0)] (.seq (rg [(se 5 0 2),(sb 6 5),(se 7 0 3),(sb 8 7),(b1 9 .neq 6 8)] (.cond (.t 9) (rg [(se 10 0 2),(sb 11 10),(se 12 0 3),(sb 13 12),(b1 14 .sub 11 13),(sa 4 14)] .ret) .skip)) (rg [(se 15 1 2),(sb 16 15),(se 17 1 3),(sb 18 17),(b1 19 .sub 16 18),(sa 4 19)] .ret)))⟩
def s141 : SFun := ⟨61,[.tmp 2],(rg [(so 2 (.mov (.k (.slice none 0 0))))] (.seq (rg [(sa 6 0),(b4 7 6),(b2 8 .lss 7 2)] (.cond (.t 8) (rg [(sa 9 0),(sa 2 9)] .ret) .skip)) (.seq (rg [(b6 3 1)] (.block 0 (.loop (.seq (rg [(sa 10 3),(sa 11 0),(b4 12 11),(b1 13 .lss 10 12)] (.cond (.t 13) .skip (.exit 0))) (.seq (.block 1 (.seq (.draw [(ea 16 0),(ea 17 3),(d7 18 2 16 17),(ec 19 2 18),(ea 20 0),(ea 21 3),(d2 22 .sub 21 1),(d7 23 2 20 22),(ec 24 2 23),(eo 25 (.eqa false 2 (.t 19) (.t 24)))]) (.cond (.t 25) (rg [(sa 26 0),(sa 27 3),(so 28 (.slS 2 (.t 26) (some (.t 27)) none none)),(sa 4 28)] (.seq (rg [(b6 5 1)] (.block 2 (.loop (.seq (rg [(sa 29 5),(sa 30 4),(b4 31 30),(b1 32 .lss 29 31)] (.cond (.t 32) .skip (.exit 2))) (.seq (.block 3 (.seq (.draw [(ea 35 4),(ea 36 5),(d7 37 2 35 36),(ec 38 2 37),(ea 39 4),(ea 40 5),(d2 41 .sub 40 1),(d7 42 2 39 41),(ec 43 2 42),(eo 44 (.eqa true 2 (.t 38) (.t 43)))]) (.cond (.t 44) (rg [(sa 45 0),(sa 46 3),(sa 47 4),(sa 48 5),(b7 49 2 47 48),(sc 50 2 49),(b7 51 2 45 46),(b8 2 51 50)] (.reg [(sa 52 3),(b2 53 .add 52 1),(sa 3 53)])) .skip))) (.reg [(sa 33 5),(b2 34 .add 33 1),(sa 5 34)])))))) (rg [(sa 54 0),(sa 55 3),(so 56 (.slS 2 (.t 54) (some (.t 55)) none none)),⟨none,.clr 2 (zs 2) (.t 56),none⟩] (rg [(sa 57 0),(sa 58 3),(so 59 (.slS 2 (.t 57) none (some (.t 58)) none)),(sa 2 59)] .ret)))) .skip))) (.reg [(sa 14 3),(b2 15 .add 14 1),(sa 3 15)])))))) (rg [(sa 60 0),(sa 2 60)] .ret))))⟩
def s142 : SFun := ⟨52,[],(rg [(sb 6 1),(b4 7 6),(sa 3 7)] (.seq (rg [(sa 8 0),(b4 9 8),(b6 10 0)] (.block 0 (.loop (rg [(b1 11 .lss 10 9)] (.seq (.cond (.t 11) .skip (.exit 0)) (.seq (.block 1 (rg [(b7 12 2 8 10),(sc 13 2 12),(so 5 (.new 95 (zs 2))),(b8 2 5 13)] (.seq (.block 2 (.loop (.seq (.seq (.draw [(eb 14 1),(d4 15 14),(ea 16 3),(d2 17 .add 16 1),(d1 18 .gtr 15 17),(ea 19 18),(dz ⟨(some 20),.ld (.t 1),(some (19,true))⟩),(dz ⟨(some 21),.ld (.t 1),(some (19,true))⟩),(dz ⟨(some 22),.len (.t 21),(some (19,true))⟩),(dz ⟨(some 23),.bin .sub (.t 22) (ki 2),(some (19,true))⟩),(dz ⟨(some 24),.iaS 2 (.t 20) (.t 23),(some (19,true))⟩),(dz ⟨(some 25),.lds 2 (.t 24),(some (19,true))⟩),(dz ⟨(some 26),.ld (.t 1),(some (19,true))⟩),(dz ⟨(some 27),.ld (.t 1),(some (19,true))⟩),(dz ⟨(some 28),.len (.t 27),(some (19,true))⟩),(dz ⟨(some 29),.bin .sub (.t 28) (ki 1),(some (19,true))⟩),(dz ⟨(some 30),.iaS 2 (.t 26) (.t 29),(some (19,true))⟩),(dz ⟨(some 31),.lds 2 (.t 30),(some (19,true))⟩),(dz ⟨(some 32),.agg (zs 4) [(0,2,(.t 25)),(2,2,(.t 31))],(some (19,true))⟩),(dz ⟨(some 33),.lds 2 (.t 5),(some (19,true))⟩),(dz ⟨(some 34),.call 78 [(.t 32),(.t 33)],(some (19,true))⟩),(dz ⟨(some 35),.bin .leq (.t 34) (ki 0),(some (19,true))⟩),(eo 36 (.pick (.t 19) (.t 35) (.k (.bool false))))]) (.cond (.t 36) .skip (.exit 2))) (.block 3 (.reg [(sb 37 1),(sb 38 1),(b4 39 38),(b2 40 .sub 39 1),(so 41 (.slS 2 (.t 37) none (some (.t 40)) none)),(b8 1 1 41)]))))) (.reg [(sb 42 1),(sc 43 2 5),(so 44 (.bsl 95 1 (zs 2) [(0,2,(.t 43))])),(so 45 (.app 95 2 16 (zs 2) (.t 42) (.t 44))),(b8 1 1 45)])))) (.reg [(b2 46 .add 10 1),(sa 10 46)]))))))) (.reg [(sb 47 1),(sb 48 1),(b4 49 48),(b2 50 .sub 49 1),(so 51 (.slS 2 (.t 47) none (some (.t 50)) none)),(b8 1 1 51)])))⟩
def s143 : SFun := ⟨28,[],(rg [(sa 4 0),(b4 5 4),(b2 6 .sub 5 1),(b6 2 0),(sa 3 6)] (.block 0 (.loop (.seq (rg [(sa 7 2),(sa 8 3),(b1 9 .lss 7 8)] (.cond (.t 9) .skip (.exit 0))) (.seq (.block 1 (.draw [(ea 14 0),(ea 15 2),⟨(sa 16 0),none,[13],[]⟩,⟨(sa 17 3),none,[13],[]⟩,(ea 18 0),(ea 19 3),(d7 20 2 18 19),(ec 21 2 20),(ea 22 0),(ea 23 2),(d7 24 2 22 23),(ec 25 2 24),(d7 26 2 14 15),⟨(b8 2 26 21),none,[],[.slot 0]⟩,(d7 27 2 16 17),⟨(b8 2 27 25),none,[],[.slot 0]⟩])) (.reg [(sa 10 2),(b2 11 .add 10 1),(sa 12 3),(b2 13 .sub 12 1),(sa 2 11),(sa 3 13)]))))))⟩
def s145 : SFun := ⟨93,[.tmp 4],(rg [(so 2 (.box 145 (.t 0))),(so 3 (.box 29 (.t 1))),(so 4 (.mov (.k (.bool false))))] (.seq (rg [(se 10 0 2),(se 11 0 10),(se 12 0 11),(sb 13 12),(se 14 0 2),(se 15 2 14),(se 16 0 15),(sb 17 16),(so 18 (.mm true (.t 13) [(.t 17)])),(se 19 0 3),(sb 20 19),(so 21 (.bin .mul (ki 2) (.t 20))),(b1 22 .lss 18 21),(sa 23 22),⟨(some 24),.fa 0 (.t 2),(some (23,false))⟩,⟨(some 25),.fa 0 (.t 24),(some (23,false))⟩,⟨(some 26),.fa 0 (.t 25),(some (23,false))⟩,⟨(some 27),.ld (.t 26),(some (23,false))⟩,⟨(some 28),.fa 0 (.t 2),(some (23,false))⟩,⟨(some 29),.fa 2 (.t 28),(some (23,false))⟩,⟨(some 30),.fa 0 (.t 29),(some (23,false))⟩,⟨(some 31),.ld (.t 30),(some (23,false))⟩,⟨(some 32),.mm false (.t 27) [(.t 31)],(some (23,false))⟩,⟨(some 33),.fa 2 (.t 3),(some (23,false))⟩,⟨(some 34),.ld (.t 33),(some (23,false))⟩,⟨(some 35),.bin .mul (ki 2) (.t 34),(some (23,false))⟩,⟨(some 36),.bin .gtr (.t 32) (.t 35),(some (23,false))⟩,(so 37 (.pick (.t 23) (.k (.bool true)) (.t 36))),(sa 38 37),⟨(some 39),.fa 0 (.t 2),(some (38,false))⟩,⟨(some 40),.fa 0 (.t 39),(some (38,false))⟩,⟨(some 41),.fa 1 (.t 40),(some (38,false))⟩,⟨(some 42),.ld (.t 41),(some (38,false))⟩,⟨(some 43),.fa 0 (.t 2),(some (38,false))⟩,⟨(some 44),.fa 2 (.t 43),(some (38,false))⟩,⟨(some 45),.fa 1 (.t 44),(some (38,false))⟩,⟨(some 46),.ld (.t 45),(some (38,false))⟩,⟨(some 47),.mm true (.t 42) [(.t 46)],(some (38,false))⟩,⟨(some 48),.fa 1 (.t 3),(some (38,false))⟩,⟨(some 49),.ld (.t 48),(some (38,false))⟩,⟨(some 50),.bin .mul (ki 2) (.t 49),(some (38,false))⟩,⟨(some 51),.bin .lss (.t 47) (.t 50),(some (38,false))⟩,(so 52 (.pick (.t 38) (.k (.bool true)) (.t 51))),(sa 53 52),⟨(some 54),.fa 0 (.t 2),(some (53,false))⟩,⟨(some 55),.fa 0 (.t 54),(some (53,false))⟩,⟨(some 56),.fa 1 (.t 55),(some (53,false))⟩,⟨(some 57),.ld (.t 56),(some (53,false))⟩,⟨(some 58),.fa 0 (.t 2),(some (53,false))⟩,⟨(some 59),.fa 2 (.t 58),(some (53,false))⟩,⟨(some 60),.fa 1 (.t 59),(some (53,false))⟩,⟨(some 61),.ld (.t 60),(some (53,false))⟩,⟨(some 62),.mm false (.t 57) [(.t 61)],(some (53,false))⟩,⟨(some 63),.fa 3 (.t 3),(some (53,false))⟩,⟨(some 64),.ld (.t 63),(some (53,false))⟩,⟨(some 65),.bin .mul (ki 2) (.t 64),(some (53,false))⟩,⟨(some 66),.bin .gtr (.t 62) (.t 65),(some (53,false))⟩,(so 67 (.pick (.t 53) (.k (.bool true)) (.t 66)))] (.cond (.t 67) (rg [(so 4 (.mov (.k (.bool false))))] .ret) .skip)) (rg [(so 5 (.mov (.k (.bool false)))),(so 6 (.mov (.k (.bool false))))] (.seq (rg [(sc 68 4 3),(b3 69 54 [68]),(b6 70 0)] (.block 0 (.loop (rg [(b2 71 .lss 70 4)] (.seq (.cond (.t 71) .skip (.exit 0)) (.seq (.block 1 (rg [(so 72 (.ixA 4 2 (some 2) (.t 69) (.t 70))),(so 8 (.new 95 (zs 2))),(b8 2 8 72)] (.seq (.draw [(ee 73 0 2),(ec 74 4 73),(ec 75 2 8),(eo 76 (.call 101 [(.t 75),(ki 2)])),(d3 77 78 [74,76]),(ea 9 77)]) (.reg [(sa 78 5),(sa 79 78),⟨(some 80),.mov (.t 9),(some (79,false))⟩,⟨(some 81),.bin .geq (.t 80) (ki 0),(some (79,false))⟩,(so 82 (.pick (.t 79) (.k (.bool true)) (.t 81))),(sa 83 6),(sa 84 83),⟨(some 85),.mov (.t 9),(some (84,false))⟩,⟨(some 86),.bin .leq (.t 85) (ki 0),(some (84,false))⟩,(so 87 (.pick (.t 84) (.k (.bool true)) (.t 86))),(sa 5 82),(sa 6 87)])))) (.reg [(b2 88 .add 70 1),(sa 70 88)]))))))) (rg [(sa 89 5),(sa 90 89),⟨(some 91),.mov (.t 6),(some (90,true))⟩,(so 92 (.pick (.t 90) (.t 91) (.k (.bool false)))),(sa 4 92)] .ret)))))⟩
def s147 : SFun := ⟨19,[.tmp 4],(rg [(b6 4 0)] (.seq (rg [(sa 6 0),(b4 7 6),(b6 8 0)] (.block 0 (.loop (rg [(b1 9 .lss 8 7)] (.seq (.cond (.t 9) .skip (.exit 0)) (.seq (.block 1 (rg [(sa 10 8),(sa 5 10)] (rg [(sa 11 1),(sa 12 0),(sa 13 5),(b7 14 2 12 13),(sc 15 2 14),(so 16 (.callv (.t 11) [(.t 15)]))] (.cond (.t 16) (rg [(sa 17 5),(sa 4 17)] .ret) .skip)))) (.reg [(b2 18 .add 8 1),(sa 8 18)]))))))) (rg [(b6 4 (-1))] .ret)))⟩
def s148 : SFun := ⟨19,[.tmp 4],(rg [(b6 4 0)] (.seq (rg [(sa 6 0),(b4 7 6),(b6 8 0)] (.block 0 (.loop (rg [(b1 9 .lss 8 7)] (.seq (.cond (.t 9) .skip (.exit 0)) (.seq (.block 1 (rg [(sa 10 8),(sa 5 10)] (rg [(sa 11 1),(sa 12 0),(sa 13 5),(b7 14 4 12 13),(sc 15 4 14),(so 16 (.callv (.t 11) [(.t 15)]))] (.cond (.t 16) (rg [(sa 17 5),(sa 4 17)] .ret) .skip)))) (.reg [(b2 18 .add 8 1),(sa 8 18)]))))))) (rg [(b6 4 (-1))] .ret)))⟩
def s149 : SFun := ⟨19,[.tmp 4],(rg [(b6 4 0)] (.seq (rg [(sa 6 0),(b4 7 6),(b6 8 0)] (.block 0 (.loop (rg [(b1 9 .lss 8 7)] (.seq (.cond (.t 9) .skip (.exit 0)) (.seq (.block 1 (rg [(sa 10 8),(sa 5 10)] (rg [(sa 11 1),(sa 12 0),(sa 13 5),(b7 14 6 12 13),(sc 15 6 14),(so 16 (.callv (.t 11) [(.t 15)]))] (.cond (.t 16) (rg [(sa 17 5),(sa 4 17)] .ret) .skip)))) (.reg [(b2 18 .add 8 1),(sa 8 18)]))))))) (rg [(b6 4 (-1))] .ret)))⟩
def s161 : SFun := ⟨25,[.tmp 2],(rg [(b6 2 0)] (.seq (rg [(sa 3 0),(so 4 (.bin .geq (.t 3) (.k (.int .u64 4294967296))))] (.cond (.t 4) (rg [(sa 5 0),(so 6 (.bin .shr (.t 5) (.k (.int .u64 32)))),(sa 0 6)] (.reg [(b6 2 32)])) .skip)) (.seq (rg [(sa 7 0),(so 8 (.bin .geq (.t 7) (.k (.int .u64 65536))))] (.cond (.t 8) (rg [(sa 9 0),(so 10 (.bin .shr (.t 9) (.k (.int .u64 16)))),(sa 0 10)] (.reg [(sa 11 2),(b2 12 .add 11 16),(sa 2 12)])) .skip)) (.seq (rg [(sa 13 0),(so 14 (.bin .geq (.t 13) (.k (.int .u64 256))))] (.cond (.t 14) (rg [(sa 15 0),(so 16 (.bin .shr (.t 15) (.k (.int .u64 8)))),(sa 0 16)] (.reg [(sa 17 2),(b2 18 .add 17 8),(sa 2 18)])) .skip)) (rg [(sa 19 2),(sa 20 0),(so 21 (.conv .u8 (.t 20))),(so 22 (.ixS (.k (.str ⟨#[0,1,2,2,3,3,3,3,4,4,4,4,4,4,4,4,5,5,5,5,5,5,5,5,5,5,5,5,5,5,5,5,6,6,6,6,6,6,6,6,6,6,6,6,6,6,6,6,6,6,6,6,6,6,6,6,6,6,6,6,6,6,6,6,7,7,7,7,7,7,7,7,7,7,7,7,7,7,7,7,7,7,7,7,7,7,7,7,7,7,7,7,7,7,7,7,7,7,7,7,7,7,7,7,7,7,7,7,7,7,7,7,7,7,7,7,7,7,7,7,7,7,7,7,7,7,7,7,8,8,8,8,8,8,8,8,8,8,8,8,8,8,8,8,8,8,8,8,8,8,8,8,8,8,8,8,8,8,8,8,8,8,8,8,8,8,8,8,8,8,8,8,8,8,8,8,8,8,8,8,8,8,8,8,8,8,8,8,8,8,8,8,8,8,8,8,8,8,8,8,8,8,8,8,8,8,8,8,8,8,8,8,8,8,8,8,8,8,8,8,8,8,8,8,8,8,8,8,8,8,8,8,8,8,8,8,8,8,8,8,8,8,8,8,8,8,8,8,8,8,8,8,8,8,8,8]⟩)) (.t 21))),(so 23 (.conv .i64 (.t 22))),(b1 24 .add 19 23),(sa 2 24)] .ret)))))⟩
def s162 : SFun := ⟨51,[.tmp 4,.tmp 5],(rg [(so 4 (.mov (.k (.int .u64 0)))),(so 5 (.mov (.k (.int .u64 0))))] (rg [(sa 14 0),(so 15 (.bin .and (.t 14) (.k (.int .u64 4294967295)))),(sa 6 15)] (rg [(sa 16 0),(so 17 (.bin .shr (.t 16) (.k (.int .u64 32)))),(sa 7 17)] (rg [(sa 18 1),(so 19 (.bin .and (.t 18) (.k (.int .u64 4294967295)))),(sa 8 19)] (rg [(sa 20 1),(so 21 (.bin .shr (.t 20) (.k (.int .u64 32)))),(sa 9 21)] (rg [(sa 22 6),(sa 23 8),(b1 24 .mul 22 23),(sa 10 24)] (rg [(sa 25 7),(sa 26 8),(b1 27 .mul 25 26),(sa 28 10),(so 29 (.bin .shr (.t 28) (.k (.int .u64 32)))),(b1 30 .add 27 29),(sa 11 30)] (rg [(sa 31 11),(so 32 (.bin .and (.t 31) (.k (.int .u64 4294967295)))),(sa 12 32)] (rg [(sa 33 11),(so 34 (.bin .shr (.t 33) (.k (.int .u64 32)))),(sa 13 34)] (rg [(sa 35 12),(sa 36 6),(sa 37 9),(b1 38 .mul 36 37),(b1 39 .add 35 38),(sa 12 39)] (rg [(sa 40 7),(sa 41 9),(b1 42 .mul 40 41),(sa 43 13),(b1 44 .add 42 43),(sa 45 12),(so 46 (.bin .shr (.t 45) (.k (.int .u64 32)))),(b1 47 .add 44 46),(sa 4 47)] (rg [(sa 48 0),(sa 49 1),(b1 50 .mul 48 49),(sa 5 50)] .ret))))))))))))⟩
def s163 : SFun := ⟨148,[],(rg [(so 10 (.mov (.k (.bool true))))] (rg [(so 11 (.mov (.k (.bool true))))] (.block 0 (.loop (.block 1 (rg [(sa 21 2),(sa 22 1),(b1 23 .sub 21 22),(sa 12 23)] (.seq (rg [(sa 24 12),(b2 25 .leq 24 12)] (.cond (.t 25) (rg [(sa 26 0),(sa 27 1),(sa 28 2),(sa 29 4),(b3 30 177 [26,27,28,29])] .ret) .skip)) (.seq (rg [(sa 31 3),(b2 32 .eql 31 0)] (.cond (.t 32) (rg [(sa 33 0),(sa 34 1),(sa 35 2),(sa 36 4),(b3 37 178 [33,34,35,36])] .ret) .skip)) (.seq (rg [(sa 38 10),(b5 39 38)] (.cond (.t 39) (rg [(sa 40 0),(sa 41 1),(sa 42 2),(sa 43 4),(b3 44 179 [40,41,42,43])] (.reg [(sa 45 3),(b2 46 .sub 45 1),(sa 3 46)])) .skip)) (rg [(sa 48 0),(sa 49 1),(sa 50 2),(sa 51 4),(b3 52 180 [48,49,50,51]),(sa 47 52),(so 53 (.ext (.t 47) 0)),(so 54 (.ext (.t 47) 1)),(sa 13 53),(sa 14 54)] (.seq (rg [(sa 55 14),(b2 56 .eql 55 2)] (.cond (.t 56) (rg [(sa 57 0),(sa 58 1),(sa 59 2),(sa 60 4),(b3 61 181 [57,58,59,60])] (rg [(sa 62 2),(b2 63 .sub 62 1),(sa 64 13),(sa 65 1),(b1 66 .sub 64 65),(b1 67 .sub 63 66),(sa 13 67)] (.reg [(b6 14 1)]))) .skip)) (.seq (rg [(sa 68 10),(sa 69 68),⟨(some 70),.mov (.t 11),(some (69,true))⟩,(so 71 (.pick (.t 69) (.t 70) (.k (.bool false)))),(sa 72 71),⟨(some 73),.mov (.t 14),(some (72,true))⟩,⟨(some 74),.bin .eql (.t 73) (ki 1),(some (72,true))⟩,(so 75 (.pick (.t 72) (.t 74) (.k (.bool false))))] (.cond (.t 75) (rg [(sa 76 0),(sa 77 1),(sa 78 2),(sa 79 4),(b3 80 182 [76,77,78,79])] (.cond (.t 80) .ret .skip)) .skip)) (.seq (.seq (.draw [(ea 81 1),(d2 82 .gtr 81 0),(ea 83 82),(dz ⟨(some 84),.mov (.t 4),(some (83,true))⟩),(dz ⟨(some 85),.mov (.t 0),(some (83,true))⟩),(dz ⟨(some 86),.mov (.t 1),(some (83,true))⟩),(dz ⟨(some 87),.bin .sub (.t 86) (ki 1),(some (83,true))⟩),(dz ⟨(some 88),.iaS 2 (.t 85) (.t 87),(some (83,true))⟩),(dz ⟨(some 89),.lds 2 (.t 88),(some (83,true))⟩),(dz ⟨(some 90),.mov (.t 0),(some (83,true))⟩),(dz ⟨(some 91),.mov (.t 13),(some (83,true))⟩),(dz ⟨(some 92),.iaS 2 (.t 90) (.t 91),(some (83,true))⟩),(dz ⟨(some 93),.lds 2 (.t 92),(some (83,true))⟩),(dz ⟨(some 94),.callv (.t 84) [(.t 89),(.t 93)],(some (83,true))⟩),(dz ⟨(some 95),.bin .lss (.t 94) (ki 0),(some (83,true))⟩),(dz ⟨(some 96),.un .not (.t 95),(some (83,true))⟩),(eo 97 (.pick (.t 83) (.t 96) (.k (.bool false))))]) (.cond (.t 97) (rg [(sa 98 0),(sa 99 1),(sa 100 2),(sa 101 13),(sa 102 4),(b3 103 183 [98,99,100,101,102]),(sa 15 103)] (rg [(sa 104 15),(sa 1 104)] (.exit 1))) .skip)) (rg [(sa 106 0),(sa 107 1),(sa 108 2),(sa 109 13),(sa 110 4),(b3 111 184 [106,107,108,109,110]),(sa 105 111),(so 112 (.ext (.t 105) 0)),(so 113 (.ext (.t 105) 1)),(sa 16 112),(sa 17 113)] (rg [(sa 114 17),(sa 11 114)] (rg [(sa 115 16),(sa 116 1),(b1 117 .sub 115 116),(sa 118 2),(sa 119 16),(b1 120 .sub 118 119),(sa 18 117),(sa 19 120)] (rg [(sa 121 12),(b2 122 .quo 121 8),(sa 20 122)] (rg [(sa 123 18),(sa 124 19),(b1 125 .lss 123 124)] (.cond (.t 125) (rg [(sa 126 18),(sa 127 20),(b1 128 .geq 126 127),(sa 10 128)] (rg [(sa 129 0),(sa 130 1),(sa 131 16),(sa 132 3),(sa 133 4),(b3 134 163 [129,130,131,132,133])] (.reg [(sa 135 16),(b2 136 .add 135 1),(sa 1 136)]))) (rg [(sa 137 19),(sa 138 20),(b1 139 .geq 137 138),(sa 10 139)] (rg [(sa 140 0),(sa 141 16),(b2 142 .add 141 1),(sa 143 2),(sa 144 3),(sa 145 4),(b3 146 163 [140,142,143,144,145])] (.reg [(sa 147 16),(sa 2 147)]))))))))))))))))))))))⟩
def s177 : SFun := ⟨53,[],(rg [(sa 10 1),(b2 11 .add 10 1),(sa 8 11)] (.block 0 (.loop (.seq (rg [(sa 12 8),(sa 13 2),(b1 14 .lss 12 13)] (.cond (.t 14) .skip (.exit 0))) (.seq (.block 1 (rg [(sa 17 8),(sa 9 17)] (.block 2 (.loop (.seq (.seq (.draw [(ea 18 9),(ea 19 1),(d1 20 .gtr 18 19),(ea 21 20),(dz ⟨(some 22),.mov (.t 3),(some (21,true))⟩),(dz ⟨(some 23),.mov (.t 0),(some (21,true))⟩),(dz ⟨(some 24),.mov (.t 9),(some (21,true))⟩),(dz ⟨(some 25),.iaS 2 (.t 23) (.t 24),(some (21,true))⟩),(dz ⟨(some 26),.lds 2 (.t 25),(some (21,true))⟩),(dz ⟨(some 27),.mov (.t 0),(some (21,true))⟩),(dz ⟨(some 28),.mov (.t 9),(some (21,true))⟩),(dz ⟨(some 29),.bin .sub (.t 28) (ki 1),(some (21,true))⟩),(dz ⟨(some 30),.iaS 2 (.t 27) (.t 29),(some (21,true))⟩),(dz ⟨(some 31),.lds 2 (.t 30),(some (21,true))⟩),(dz ⟨(some 32),.callv (.t 22) [(.t 26),(.t 31)],(some (21,true))⟩),(dz ⟨(some 33),.bin .lss (.t 32) (ki 0),(some (21,true))⟩),(eo 34 (.pick (.t 21) (.t 33) (.k (.bool false))))]) (.cond (.t 34) .skip (.exit 2))) (.seq (.block 3 (.draw [(ea 37 0),(ea 38 9),⟨(sa 39 0),none,[15],[]⟩,⟨(sa 40 9),none,[15],[]⟩,⟨(b2 41 .sub 40 1),none,[15],[]⟩,(ea 42 0),(ea 43 9),(d2 44 .sub 43 1),(d7 45 2 42 44),(ec 46 2 45),(ea 47 0),(ea 48 9),(d7 49 2 47 48),(ec 50 2 49),(d7 51 2 37 38),⟨(b8 2 51 46),none,[],[.slot 0]⟩,(d7 52 2 39 41),⟨(b8 2 52 50),none,[],[.slot 0]⟩])) (.reg [(sa 35 9),(b2 36 .sub 35 1),(sa 9 36)]))))))) (.reg [(sa 15 8),(b2 16 .add 15 1),(sa 8 16)]))))))⟩
end Go.Dx
namespace Go.Dx
abbrev jv0 (l : List V) : Int := iv (hdV l)
abbrev jv1 (l : List V) : Int := iv (hdV (tlV l))
abbrev jv2 (l : List V) : Int := iv (hdV (tlV (tlV l)))
abbrev jv3 (l : List V) : Int := iv (hdV (tlV (tlV (tlV l))))
abbrev jv4 (l : List V) : Int := iv (hdV (tlV (tlV (tlV (tlV l)))))
abbrev jv5 (l : List V) : Int := iv (hdV (tlV (tlV (tlV (tlV (tlV l))))))
theorem dqt {p : Prop} [inst : Decidable p] (h : p) : decide p = true := decide_eq_true h
theorem dqf {p : Prop} [inst : Decidable p] (h : ¬p) : decide p = false := decide_eq_false h
theorem imn {a b : Int} (h : 0 <= a) (g : 0 <= b) : 0 <= a * b := Int.mul_nonneg h g
theorem iml {a b c : Int} (h : a <= b) (g : 0 <= c) : c * a <= c * b := Int.mul_le_mul_of_nonneg_left h g
def iR : Nat -> Nat -> Rho -> Rho
 | _, 0, l => l
 | k, n + 1, l => some (some k) :: iR (k + 1) n l
def rdP (ct : CTab) (un : Unr) (j : JJ) (l : Lp JJ) (s : Env × List O × Option Sx.Ex) : T (Leaf JJ) := rdT ct un j l s.1 s.2.1 s.2.2
abbrev vi (n : Int) : V := .int .i64 n
abbrev tp2 : List Ty := [Ty.int IntKind.i64, Ty.int IntKind.i64]
abbrev tp4 : List Ty := [Ty.int IntKind.i64, Ty.int IntKind.i64, Ty.int IntKind.i64, Ty.int IntKind.i64]
abbrev tp1 : List Ty := [Ty.int IntKind.i64]
abbrev tyR : List Ty := [Ty.str, Ty.int IntKind.i64, Ty.sl [Ty.int IntKind.i64, Ty.int IntKind.i64], Ty.int IntKind.i64]
abbrev tyF : List Ty := [Ty.int IntKind.i64, Ty.int IntKind.i64, Ty.int IntKind.i64, Ty.int IntKind.i64, Ty.sl [Ty.int IntKind.i64, Ty.int IntKind.i64, Ty.int IntKind.i64, Ty.int IntKind.i64]]
abbrev tyC : List Ty := [Ty.str, Ty.int IntKind.i64, Ty.int IntKind.i64, Ty.int IntKind.i64, Ty.int IntKind.i64, Ty.int IntKind.i64]
abbrev tyT : List Ty := [Ty.int IntKind.i64, Ty.int IntKind.i64, Ty.int IntKind.i64, Ty.int IntKind.i64, Ty.int IntKind.i64]
abbrev scV (n0 : Nat) (f0 : FnV) (n2 : Nat) (f2 : FnV) (n4 : Nat) (f4 : FnV) (n6 : Nat) (f6 : FnV) : V := .agg [.sl n0 (elV tyR f0), .sl n2 (elV tyT f2), .sl n4 (elV tyF f4), .sl n6 (elV tyC f6)]
end Go.Dx
namespace Go.Dx
open Go.IntKind (i64 u64 u8)
open Go.Sx Go.Proofs
def eqs : List TypeId := [68, 29, 72, 192, 95]
theorem hE : ∀ t ∈ eqs, EqInts Tryz.prog t := by
 intro t ht
 simp only [eqs, List.mem_cons, List.not_mem_nil, or_false] at ht
 rcases ht with rfl | rfl | rfl | rfl | rfl
 ·exact eqInts_struct (by kernel_rfl) (by kernel_rfl) (by kernel_rfl) (by kernel_rfl) (by kernel_rfl)
 ·exact eqInts_struct (by kernel_rfl) (by kernel_rfl) (by kernel_rfl) (by kernel_rfl) (by kernel_rfl)
 ·exact eqInts_array 3 2 (by kernel_rfl) (by kernel_rfl) (by kernel_rfl) (by kernel_rfl) (by kernel_rfl) (by kernel_rfl)
 ·exact eqInts_struct (by kernel_rfl) (by kernel_rfl) (by kernel_rfl) (by kernel_rfl) (by kernel_rfl)
 ·exact eqInts_struct (by kernel_rfl) (by kernel_rfl) (by kernel_rfl) (by kernel_rfl) (by kernel_rfl)
theorem hI : itsOk Tryz.prog eqs its := by
 intro it ht
 simp only [its, List.mem_cons, List.not_mem_nil, or_false] at ht
 subst ht
 exact ⟨_, Tryz.func128, by kernel_rfl, by kernel_rfl⟩
def u0 : Unr := fun _ => 0
noncomputable def fnQ (fn : Func) (sf : SFun) (ts : List Ty) : Bool × Option SFun × Bool × Bool := (fn.name == "runtime.NumGoroutine", compFun Tryz.prog eqs its fn, dstC sf.ntmps sf.body, okTys ts)
theorem fnQ_all {fn : Func} {sf : SFun} {ts : List Ty} (h : fnQ fn sf ts = (false, some sf, true, true)) : (fn.name == "runtime.NumGoroutine") = false /\ compFun Tryz.prog eqs its fn = some sf /\ dstC sf.ntmps sf.body = true /\ okTys ts = true := by
 have h1 := congrArg Prod.fst h
 have h2 := congrArg (fun x => x.2.1) h
 have h3 := congrArg (fun x => x.2.2.1) h
 have h4 := congrArg (fun x => x.2.2.2) h
 exact ⟨h1, h2, h3, h4⟩
section
variable {ct : CTab} {f : FuncId} {fn : Func} {sf : SFun} {un : Unr} {ts : List Ty} {pre : List V -> Prop} {r : List V -> V}
theorem mkE (hT : TabOk Tryz.prog eqs its ct) (hf : Tryz.prog.funcs[f]? = some fn) (hk : fnQ fn sf ts = (false, some sf, true, true)) (h : ∀ ds, pre (views ts ds) -> Run ct (runL JJ ct un sf (views ts ds)) (r (views ts ds))) : (vP (mkC ts pre r)).Ok Tryz.prog f :=
 mkC_ev (J := JJ) (un := un) hT hE hI hf (fnQ_all hk).1 (fnQ_all hk).2.1 (fnQ_all hk).2.2.1 (fnQ_all hk).2.2.2 fun w0 ds hp => h ds hp hT.dst w0
end
end Go.Dx
namespace Go.Dx
open Go.IntKind (i64 u64 u8)
open Go.Sx Go.Proofs
def ctB1 : CTab := []
theorem tabB1 : TabOk Tryz.prog eqs its ctB1 := .nil
def m84 (x0 x1 x2 x3 : Int) : RT Empty := .ret (V.agg [vi (i64.wrap (x0 - x2)), vi (i64.wrap (x1 - x3))])
theorem run84 (x0 x1 x2 x3 : Int) : Fit noD (runL JJ ctB1 u0 s84 [V.agg [vi x0, vi x1], V.agg [vi x2, vi x3]]) (m84 x0 x1 x2 x3) := ⟨by kernel_rfl, by kernel_rfl⟩
def F84_0 (x0 x2 : Int) : Int := i64.wrap (x0 - x2)
def F84_1 (x1 x3 : Int) : Int := i64.wrap (x1 - x3)
def R84 (x0 x1 x2 x3 : Int) : V := .agg [.int i64 (F84_0 x0 x2), .int i64 (F84_1 x1 x3)]
theorem ev84 (x0 x1 x2 x3 : Int) : evR noE (m84 x0 x1 x2 x3) (R84 x0 x1 x2 x3) := evRet (by unfold R84 F84_0 F84_1; rfl)
def C84 : PCon := mkC [.agg tp2, .agg tp2] (fun _ => True) fun
 | [.agg [.int _ x0, .int _ x1], .agg [.int _ x2, .int _ x3]] => R84 x0 x1 x2 x3
 | _ => .any
theorem ok84 : (vP C84).Ok Tryz.prog 84 := mkE tabB1 Tryz.func84 (by kernel_rfl) fun ds hp => rf0 (run84 ..) (ev84 _ _ _ _)
def m85 (x0 x1 x2 x3 : Int) : RT Empty := .ret (vi (i64.wrap (i64.wrap (x0 * x2) + i64.wrap (x1 * x3))))
theorem run85 (x0 x1 x2 x3 : Int) : Fit noD (runL JJ ctB1 u0 s85 [V.agg [vi x0, vi x1], V.agg [vi x2, vi x3]]) (m85 x0 x1 x2 x3) := ⟨by kernel_rfl, by kernel_rfl⟩
def F85_0 (x0 x1 x2 x3 : Int) : Int := i64.wrap (i64.wrap (x0 * x2) + i64.wrap (x1 * x3))
def R85 (x0 x1 x2 x3 : Int) : V := .int i64 (F85_0 x0 x1 x2 x3)
theorem ev85 (x0 x1 x2 x3 : Int) : evR noE (m85 x0 x1 x2 x3) (R85 x0 x1 x2 x3) := evRet (by unfold R85 F85_0; rfl)
def C85 : PCon := mkC [.agg tp2, .agg tp2] (fun _ => True) fun
 | [.agg [.int _ x0, .int _ x1], .agg [.int _ x2, .int _ x3]] => R85 x0 x1 x2 x3
 | _ => .any
theorem ok85 : (vP C85).Ok Tryz.prog 85 := mkE tabB1 Tryz.func85 (by kernel_rfl) fun ds hp => rf0 (run85 ..) (ev85 _ _ _ _)
def m127 (x0 x1 x2 x3 : Int) : RT Empty := .ret (vi (i64.wrap (i64.wrap (x0 * x3) - i64.wrap (x1 * x2))))
theorem run127 (x0 x1 x2 x3 : Int) : Fit noD (runL JJ ctB1 u0 s127 [V.agg [vi x0, vi x1], V.agg [vi x2, vi x3]]) (m127 x0 x1 x2 x3) := ⟨by kernel_rfl, by kernel_rfl⟩
def F127_0 (x0 x1 x2 x3 : Int) : Int := i64.wrap (i64.wrap (x0 * x3) - i64.wrap (x1 * x2))
def R127 (x0 x1 x2 x3 : Int) : V := .int i64 (F127_0 x0 x1 x2 x3)
theorem ev127 (x0 x1 x2 x3 : Int) : evR noE (m127 x0 x1 x2 x3) (R127 x0 x1 x2 x3) := evRet (by unfold R127 F127_0; rfl)
def C127 : PCon := mkC [.agg tp2, .agg tp2] (fun _ => True) fun
 | [.agg [.int _ x0, .int _ x1], .agg [.int _ x2, .int _ x3]] => R127 x0 x1 x2 x3
 | _ => .any
theorem ok127 : (vP C127).Ok Tryz.prog 127 := mkE tabB1 Tryz.func127 (by kernel_rfl) fun ds hp => rf0 (run127 ..) (ev127 _ _ _ _)
def m101 (x0 x1 x2 : Int) : RT Empty := .ret (V.agg [vi (i64.wrap (x2 * x0)), vi (i64.wrap (x2 * x1))])
theorem run101 (x0 x1 x2 : Int) : Fit noD (runL JJ ctB1 u0 s101 [V.agg [vi x0, vi x1], vi x2]) (m101 x0 x1 x2) := ⟨by kernel_rfl, by kernel_rfl⟩
def F101_0 (x0 x2 : Int) : Int := i64.wrap (x2 * x0)
def F101_1 (x1 x2 : Int) : Int := i64.wrap (x2 * x1)
def R101 (x0 x1 x2 : Int) : V := .agg [.int i64 (F101_0 x0 x2), .int i64 (F101_1 x1 x2)]
theorem ev101 (x0 x1 x2 : Int) : evR noE (m101 x0 x1 x2) (R101 x0 x1 x2) := evRet (by unfold R101 F101_0 F101_1; rfl)
def C101 : PCon := mkC [.agg tp2, .int .i64] (fun _ => True) fun
 | [.agg [.int _ x0, .int _ x1], .int _ x2] => R101 x0 x1 x2
 | _ => .any
theorem ok101 : (vP C101).Ok Tryz.prog 101 := mkE tabB1 Tryz.func101 (by kernel_rfl) fun ds hp => rf0 (run101 ..) (ev101 _ _ _)
def m86 (x0 x1 x2 : Int) : RT Empty := .obi (.obi (.obi (.ret (V.bool (bif decide (x0 < x1) then true else decide (x2 < x0))))))
theorem run86 (x0 x1 x2 : Int) : Fit noD (runL JJ ctB1 u0 s86 [vi x0, vi x1, vi x2]) (m86 x0 x1 x2) := ⟨by kernel_rfl, by kernel_rfl⟩
def F86_0 (x0 x1 x2 : Int) : Bool := bif decide (x0 < x1) then true else decide (x2 < x0)
def R86 (x0 x1 x2 : Int) : V := .bool (F86_0 x0 x1 x2)
theorem ev86 (x0 x1 x2 : Int) : evR noE (m86 x0 x1 x2) (R86 x0 x1 x2) := evObi (evObi (evObi (evRet (by unfold R86 F86_0; rfl))))
def C86 : PCon := mkC [.int .i64, .int .i64, .int .i64] (fun _ => True) fun
 | [.int _ x0, .int _ x1, .int _ x2] => R86 x0 x1 x2
 | _ => .any
theorem ok86 : (vP C86).Ok Tryz.prog 86 := mkE tabB1 Tryz.func86 (by kernel_rfl) fun ds hp => rf0 (run86 ..) (ev86 _ _ _)
def F71_0 (x0 x1 x2 : Int) : Bool := bif decide (x1 <= x0) then decide (x0 <= x2) else false
def F93_0 (x0 x2 : Int) : Int := i64.wrap (x0 - x2)
def F93_1 (x1 x3 : Int) : Int := i64.wrap (x1 - x3)
def F92_0 (x0 x1 x2 x3 : Int) : Int := i64.wrap (i64.wrap (x0 * x2) + i64.wrap (x1 * x3))
def F79_0 (x0 x1 x2 x3 : Int) : Int := i64.wrap (i64.wrap (x0 * x3) - i64.wrap (x1 * x2))
def F136_0 (x0 : Int) : Int := max x0 (i64.wrap (0 - x0))
def F144_0 (x0 : Int) : Int := max (-1) (min 1 x0)
def m162 (x0 x1 : Int) : RT Empty := .obt (.obt (.obt (.obt (.obt (.ret (V.tup [V.int u64 (u64.wrap (u64.wrap (u64.wrap (x0.fdiv (2 ^ 32) * x1.fdiv (2 ^ 32)) + (u64.wrap (u64.wrap (x0.fdiv (2 ^ 32) * bits BinOp.and u64 x1 4294967295) + (u64.wrap (bits BinOp.and u64 x0 4294967295 * bits BinOp.and u64 x1 4294967295)).fdiv (2 ^ 32))).fdiv (2 ^ 32)) + (u64.wrap (bits BinOp.and u64 (u64.wrap (u64.wrap (x0.fdiv (2 ^ 32) * bits BinOp.and u64 x1 4294967295) + (u64.wrap (bits BinOp.and u64 x0 4294967295 * bits BinOp.and u64 x1 4294967295)).fdiv (2 ^ 32))) 4294967295 + u64.wrap (bits BinOp.and u64 x0 4294967295 * x1.fdiv (2 ^ 32)))).fdiv (2 ^ 32))), V.int u64 (u64.wrap (x0 * x1))]))))))
theorem run162 (x0 x1 : Int) : Fit noD (runL JJ ctB1 u0 s162 [V.int u64 x0, V.int u64 x1]) (m162 x0 x1) := ⟨by kernel_rfl, by kernel_rfl⟩
def F162_0 (x0 x1 : Int) : Int := u64.wrap (u64.wrap (u64.wrap (x0.fdiv (2 ^ 32) * x1.fdiv (2 ^ 32)) + (u64.wrap (u64.wrap (x0.fdiv (2 ^ 32) * bits BinOp.and u64 x1 4294967295) + (u64.wrap (bits BinOp.and u64 x0 4294967295 * bits BinOp.and u64 x1 4294967295)).fdiv (2 ^ 32))).fdiv (2 ^ 32)) + (u64.wrap (bits BinOp.and u64 (u64.wrap (u64.wrap (x0.fdiv (2 ^ 32) * bits BinOp.and u64 x1 4294967295) + (u64.wrap (bits BinOp.and u64 x0 4294967295 * bits BinOp.and u64 x1 4294967295)).fdiv (2 ^ 32))) 4294967295 + u64.wrap (bits BinOp.and u64 x0 4294967295 * x1.fdiv (2 ^ 32)))).fdiv (2 ^ 32))
def F162_1 (x0 x1 : Int) : Int := u64.wrap (x0 * x1)
def R162 (x0 x1 : Int) : V := .tup [.int u64 (F162_0 x0 x1), .int u64 (F162_1 x0 x1)]
theorem ev162 (x0 x1 : Int) : evR noE (m162 x0 x1) (R162 x0 x1) := evObt (evObt (evObt (evObt (evObt (evRet (by unfold R162 F162_0 F162_1; rfl))))))
def C162 : PCon := mkC [.int .u64, .int .u64] (fun _ => True) fun
 | [.int _ x0, .int _ x1] => R162 x0 x1
 | _ => .any
theorem ok162 : (vP C162).Ok Tryz.prog 162 := mkE tabB1 Tryz.func162 (by kernel_rfl) fun ds hp => rf0 (run162 ..) (ev162 _ _)
def ctB2 : CTab := [(84, .con C84), (85, .con C85), (127, .con C127), (101, .con C101), (86, .con C86), (162, .con C162)]
theorem tabB2 : TabOk Tryz.prog eqs its ctB2 := .con ok84 (.con ok85 (.con ok127 (.con ok101 (.con ok86 (.con ok162 (.nil))))))
def m134 (x0 x1 : Int) : RT Empty := .obc (.obt (.ret (V.agg [V.int u64 (F162_0 (u64.wrap x0) (u64.wrap x1)), V.int u64 (F162_1 (u64.wrap x0) (u64.wrap x1))])))
theorem run134 (x0 x1 : Int) : Fit noD (runL JJ ctB2 u0 s134 [vi x0, vi x1]) (m134 x0 x1) := ⟨by kernel_rfl, by kernel_rfl⟩
def F134_0 (x0 x1 : Int) : Int := F162_0 (u64.wrap x0) (u64.wrap x1)
def F134_1 (x0 x1 : Int) : Int := F162_1 (u64.wrap x0) (u64.wrap x1)
def R134 (x0 x1 : Int) : V := .agg [.int u64 (F134_0 x0 x1), .int u64 (F134_1 x0 x1)]
theorem ev134 (x0 x1 : Int) : evR noE (m134 x0 x1) (R134 x0 x1) := evObc (evObt (evRet (by unfold R134 F134_0 F134_1; rfl)))
def C134 : PCon := mkC tp2 (fun _ => True) fun
 | [.int _ x0, .int _ x1] => R134 x0 x1
 | _ => .any
theorem ok134 : (vP C134).Ok Tryz.prog 134 := mkE tabB2 Tryz.func134 (by kernel_rfl) fun ds hp => rf0 (run134 ..) (ev134 _ _)
def m135 (x0 x1 x2 x3 : Int) : RT Empty := .obi (.obi (.obi (.obi (.obi (.obi (.obi (.obi (.obi (.obi (.obi (.obi (.obi (.obi (.obi (.obi (.obi (.ret (V.bool (bif bif x0 == x2 && (x1 == x3 && true) then true else decide (x0 < x2) then true else bif x0 == x2 then decide (x1 < x3) else false)))))))))))))))))))
theorem run135 (x0 x1 x2 x3 : Int) : Fit noD (runL JJ ctB2 u0 s135 [V.agg [V.int u64 x0, V.int u64 x1], V.agg [V.int u64 x2, V.int u64 x3]]) (m135 x0 x1 x2 x3) := ⟨by kernel_rfl, by kernel_rfl⟩
def F135_0 (x0 x1 x2 x3 : Int) : Bool := bif bif x0 == x2 && (x1 == x3 && true) then true else decide (x0 < x2) then true else bif x0 == x2 then decide (x1 < x3) else false
def R135 (x0 x1 x2 x3 : Int) : V := .bool (F135_0 x0 x1 x2 x3)
theorem ev135 (x0 x1 x2 x3 : Int) : evR noE (m135 x0 x1 x2 x3) (R135 x0 x1 x2 x3) := evObi (evObi (evObi (evObi (evObi (evObi (evObi (evObi (evObi (evObi (evObi (evObi (evObi (evObi (evObi (evObi (evObi (evRet (by unfold R135 F135_0; rfl))))))))))))))))))
def C135 : PCon := mkC [.agg [.int .u64, .int .u64], .agg [.int .u64, .int .u64]] (fun _ => True) fun
 | [.agg [.int _ x0, .int _ x1], .agg [.int _ x2, .int _ x3]] => R135 x0 x1 x2 x3
 | _ => .any
theorem ok135 : (vP C135).Ok Tryz.prog 135 := mkE tabB2 Tryz.func135 (by kernel_rfl) fun ds hp => rf0 (run135 ..) (ev135 _ _ _ _)
def F137_0 (x0 x1 x2 x3 : Int) : Bool := bif decide (x2 < x0) then true else bif x0 == x2 then decide (x3 < x1) else false
def F138_0 (x0 x1 : Int) : Int := u64.wrap (u64.wrap (u64.wrap (u64.wrap ((u64.wrap x0).tdiv 4294967296) * u64.wrap ((u64.wrap x1).tdiv 4294967296)) + u64.wrap ((u64.wrap (u64.wrap (u64.wrap ((u64.wrap x0).tdiv 4294967296) * (u64.wrap x1).tmod 4294967296) + u64.wrap ((u64.wrap ((u64.wrap x0).tmod 4294967296 * (u64.wrap x1).tmod 4294967296)).tdiv 4294967296))).tdiv 4294967296)) + u64.wrap ((u64.wrap (u64.wrap ((u64.wrap x0).tmod 4294967296 * u64.wrap ((u64.wrap x1).tdiv 4294967296)) + (u64.wrap (u64.wrap (u64.wrap ((u64.wrap x0).tdiv 4294967296) * (u64.wrap x1).tmod 4294967296) + u64.wrap ((u64.wrap ((u64.wrap x0).tmod 4294967296 * (u64.wrap x1).tmod 4294967296)).tdiv 4294967296))).tmod 4294967296)).tdiv 4294967296))
def F138_1 (x0 x1 : Int) : Int := u64.wrap (u64.wrap (u64.wrap (u64.wrap ((u64.wrap x0).tmod 4294967296 * u64.wrap ((u64.wrap x1).tdiv 4294967296)) + (u64.wrap (u64.wrap (u64.wrap ((u64.wrap x0).tdiv 4294967296) * (u64.wrap x1).tmod 4294967296) + u64.wrap ((u64.wrap ((u64.wrap x0).tmod 4294967296 * (u64.wrap x1).tmod 4294967296)).tdiv 4294967296))).tmod 4294967296) * 4294967296) + (u64.wrap ((u64.wrap x0).tmod 4294967296 * (u64.wrap x1).tmod 4294967296)).tmod 4294967296)
def m78 (x0 x1 x2 x3 x4 x5 : Int) : RT Empty := .obc (.obt (.obc (.obt (.obc (.obt (.ret (vi (F127_0 (F84_0 x2 x0) (F84_1 x3 x1) (F84_0 x4 x0) (F84_1 x5 x1)))))))))
theorem run78 (x0 x1 x2 x3 x4 x5 : Int) : Fit noD (runL JJ ctB2 u0 s78 [V.agg [vi x0, vi x1, vi x2, vi x3], V.agg [vi x4, vi x5]]) (m78 x0 x1 x2 x3 x4 x5) := ⟨by kernel_rfl, by kernel_rfl⟩
def F78_0 (x0 x1 x2 x3 x4 x5 : Int) : Int := F127_0 (F84_0 x2 x0) (F84_1 x3 x1) (F84_0 x4 x0) (F84_1 x5 x1)
def R78 (x0 x1 x2 x3 x4 x5 : Int) : V := .int i64 (F78_0 x0 x1 x2 x3 x4 x5)
theorem ev78 (x0 x1 x2 x3 x4 x5 : Int) : evR noE (m78 x0 x1 x2 x3 x4 x5) (R78 x0 x1 x2 x3 x4 x5) := evObc (evObt (evObc (evObt (evObc (evObt (evRet (by unfold R78 F78_0; rfl)))))))
def C78 : PCon := mkC [.agg tp4, .agg tp2] (fun _ => True) fun
 | [.agg [.int _ x0, .int _ x1, .int _ x2, .int _ x3], .agg [.int _ x4, .int _ x5]] => R78 x0 x1 x2 x3 x4 x5
 | _ => .any
theorem ok78 : (vP C78).Ok Tryz.prog 78 := mkE tabB2 Tryz.func78 (by kernel_rfl) fun ds hp => rf0 (run78 ..) (ev78 _ _ _ _ _ _)
def m54 (x0 x1 x2 x3 : Int) : RT Empty := .ret (V.agg [vi x0, vi x1, vi x2, vi x1, vi x2, vi x3, vi x0, vi x3])
theorem run54 (x0 x1 x2 x3 : Int) : Fit noD (runL JJ ctB2 u0 s54 [V.agg [vi x0, vi x1, vi x2, vi x3]]) (m54 x0 x1 x2 x3) := ⟨by kernel_rfl, by kernel_rfl⟩
def R54 (x0 x1 x2 x3 : Int) : V := .agg [.int i64 (x0), .int i64 (x1), .int i64 (x2), .int i64 (x1), .int i64 (x2), .int i64 (x3), .int i64 (x0), .int i64 (x3)]
theorem ev54 (x0 x1 x2 x3 : Int) : evR noE (m54 x0 x1 x2 x3) (R54 x0 x1 x2 x3) := evRet (by unfold R54 ; rfl)
def C54 : PCon := mkC [.agg tp4] (fun _ => True) fun
 | [.agg [.int _ x0, .int _ x1, .int _ x2, .int _ x3]] => R54 x0 x1 x2 x3
 | _ => .any
theorem ok54 : (vP C54).Ok Tryz.prog 54 := mkE tabB2 Tryz.func54 (by kernel_rfl) fun ds hp => rf0 (run54 ..) (ev54 _ _ _ _)
def m48 (s0 : ByteArray) (x1 x2 x3 x4 x5 x6 x7 x8 x9 x10 : Int) : RT Empty := .obc (.obt (.ret (V.agg [vi x1, vi x2, vi x3, vi (max 0 (i64.wrap (x3 - x10))), vi (i64.wrap (x3 - x9)), vi (F101_0 x6 x3), vi (F101_1 x7 x3), vi (i64.wrap (x8 * x3)), V.bool (decide (x3 < x9))])))
theorem run48 (s0 : ByteArray) (x1 x2 x3 x4 x5 x6 x7 x8 x9 x10 : Int) : Fit noD (runL JJ ctB2 u0 s48 [V.agg [V.str s0, vi x1, vi x2, vi x3, vi x4, vi x5], V.agg [vi x6, vi x7, vi x8, vi x9, vi x10]]) (m48 s0 x1 x2 x3 x4 x5 x6 x7 x8 x9 x10) := ⟨by kernel_rfl, by kernel_rfl⟩
def F48_0 (x3 x10 : Int) : Int := max 0 (i64.wrap (x3 - x10))
def F48_1 (x3 x9 : Int) : Int := i64.wrap (x3 - x9)
def F48_2 (x3 x6 : Int) : Int := F101_0 x6 x3
def F48_3 (x3 x7 : Int) : Int := F101_1 x7 x3
def F48_4 (x3 x8 : Int) : Int := i64.wrap (x8 * x3)
def F48_5 (x3 x9 : Int) : Bool := decide (x3 < x9)
def R48 (s0 : ByteArray) (x1 x2 x3 x4 x5 x6 x7 x8 x9 x10 : Int) : V := .agg [.int i64 (x1), .int i64 (x2), .int i64 (x3), .int i64 (F48_0 x3 x10), .int i64 (F48_1 x3 x9), .int i64 (F48_2 x3 x6), .int i64 (F48_3 x3 x7), .int i64 (F48_4 x3 x8), .bool (F48_5 x3 x9)]
theorem ev48 (s0 : ByteArray) (x1 x2 x3 x4 x5 x6 x7 x8 x9 x10 : Int) : evR noE (m48 s0 x1 x2 x3 x4 x5 x6 x7 x8 x9 x10) (R48 s0 x1 x2 x3 x4 x5 x6 x7 x8 x9 x10) := evObc (evObt (evRet (by unfold R48 F48_0 F48_1 F48_2 F48_3 F48_4 F48_5; rfl)))
def C48 : PCon := mkC [.agg tyC, .agg tyT] (fun _ => True) fun
 | [.agg [.str s0, .int _ x1, .int _ x2, .int _ x3, .int _ x4, .int _ x5], .agg [.int _ x6, .int _ x7, .int _ x8, .int _ x9, .int _ x10]] => R48 s0 x1 x2 x3 x4 x5 x6 x7 x8 x9 x10
 | _ => .any
theorem ok48 : (vP C48).Ok Tryz.prog 48 := mkE tabB2 Tryz.func48 (by kernel_rfl) fun ds hp => rf0 (run48 ..) (ev48 _ _ _ _ _ _ _ _ _ _ _)
def m102 (x0 x1 x2 x3 x4 x5 x6 x7 : Int) (b8 : Bool) (x9 x10 x11 : Int) : RT Empty := .obc (.obt (.ret (V.agg [vi (i64.wrap (i64.wrap (x2 * x0) + i64.wrap (x11 * F84_0 x9 x0))), vi (i64.wrap (i64.wrap (x2 * x1) + i64.wrap (x11 * F84_1 x10 x1)))])))
theorem run102 (x0 x1 x2 x3 x4 x5 x6 x7 : Int) (b8 : Bool) (x9 x10 x11 : Int) : Fit noD (runL JJ ctB2 u0 s102 [V.agg [vi x0, vi x1, vi x2, vi x3, vi x4, vi x5, vi x6, vi x7, V.bool b8], V.agg [vi x9, vi x10], vi x11]) (m102 x0 x1 x2 x3 x4 x5 x6 x7 b8 x9 x10 x11) := ⟨by kernel_rfl, by kernel_rfl⟩
def F102_0 (x0 x2 x9 x11 : Int) : Int := i64.wrap (i64.wrap (x2 * x0) + i64.wrap (x11 * F84_0 x9 x0))
def F102_1 (x1 x2 x10 x11 : Int) : Int := i64.wrap (i64.wrap (x2 * x1) + i64.wrap (x11 * F84_1 x10 x1))
def R102 (x0 x1 x2 x3 x4 x5 x6 x7 : Int) (b8 : Bool) (x9 x10 x11 : Int) : V := .agg [.int i64 (F102_0 x0 x2 x9 x11), .int i64 (F102_1 x1 x2 x10 x11)]
theorem ev102 (x0 x1 x2 x3 x4 x5 x6 x7 : Int) (b8 : Bool) (x9 x10 x11 : Int) : evR noE (m102 x0 x1 x2 x3 x4 x5 x6 x7 b8 x9 x10 x11) (R102 x0 x1 x2 x3 x4 x5 x6 x7 b8 x9 x10 x11) := evObc (evObt (evRet (by unfold R102 F102_0 F102_1; rfl)))
def C102 : PCon := mkC [.agg [.int .i64, .int .i64, .int .i64, .int .i64, .int .i64, .int .i64, .int .i64, .int .i64, .bool], .agg tp2, .int .i64] (fun _ => True) fun
 | [.agg [.int _ x0, .int _ x1, .int _ x2, .int _ x3, .int _ x4, .int _ x5, .int _ x6, .int _ x7, .bool b8], .agg [.int _ x9, .int _ x10], .int _ x11] => R102 x0 x1 x2 x3 x4 x5 x6 x7 b8 x9 x10 x11
 | _ => .any
theorem ok102 : (vP C102).Ok Tryz.prog 102 := mkE tabB2 Tryz.func102 (by kernel_rfl) fun ds hp => rf0 (run102 ..) (ev102 _ _ _ _ _ _ _ _ _ _ _ _)
def F104_0 (x3 x10 : Int) : Int := i64.wrap (x3 - min x10 x3)
def F104_1 (x3 x9 : Int) : Int := i64.wrap (x3 - x9)
def F105_0 (x3 x6 : Int) : Int := i64.wrap (x3 * x6)
def F105_1 (x3 x7 : Int) : Int := i64.wrap (x3 * x7)
def F105_2 (x3 x8 : Int) : Int := i64.wrap (x3 * x8)
def F21_0 (x0 x2 : Int) (b4 : Bool) : Int := bif b4 then i64.wrap (x0 + i64.wrap ((i64.wrap (x2 - x0)).tdiv 2)) else x2
def F21_1 (x1 x3 : Int) (b4 : Bool) : Int := bif b4 then x3 else i64.wrap (x1 + i64.wrap ((i64.wrap (x3 - x1)).tdiv 2))
def F21_2 (x0 x2 : Int) (b4 : Bool) : Int := bif b4 then i64.wrap (x0 + i64.wrap ((i64.wrap (x2 - x0)).tdiv 2)) else x0
def F21_3 (x1 x3 : Int) (b4 : Bool) : Int := bif b4 then x1 else i64.wrap (x1 + i64.wrap ((i64.wrap (x3 - x1)).tdiv 2))
end Go.Dx
namespace Go.Dx
open Go.IntKind (i64 u64 u8)
open Go.Sx
theorem up_ind {n : Nat} {P : Nat -> Prop} (h : ∀ i, i <= n -> (i < n -> P (i + 1)) -> P i) : ∀ i, i <= n -> P i := by
 have key : ∀ k i, i + k = n -> P i := by
  intro k
  induction k with
  | zero => intro i e; exact h i (by omega) fun h => by omega
  | succ k ih => intro i e; exact h i (by omega) fun _ => ih (i + 1) (by omega)
 exact fun i hi => key (n - i) i (by omega)
theorem wrapI {x : Int} (h1 : -9223372036854775808 <= x) (h2 : x <= 9223372036854775807) : i64.wrap x = x := IntWalk.i64_in _ (by omega)
theorem wrapS {i n : Nat} (h : i < n) (hn : n <= 9223372036854775807) : i64.wrap ((i : Int) + 1) = ((i + 1 : Nat) : Int) := by
 rw [wrapI (by omega) (by omega)]; omega
theorem allB_true {n : Nat} {p : Nat -> Bool} : allB n p = true ↔ ∀ i, i < n -> p i = true := ⟨allB_ok, allB_of⟩
theorem allB_false {n : Nat} {p : Nat -> Bool} (i : Nat) (hi : i < n) (h : p i = false) : allB n p = false := by
 cases hb : allB n p with
 | false => rfl
 | true => rw [allB_ok hb i hi] at h; cases h
def idxN (p : Nat -> Bool) : Nat -> Nat -> Int
 | 0, _ => -1
 | k + 1, i => bif p i then (i : Int) else idxN p k (i + 1)
def idx (n : Nat) (p : Nat -> Bool) : Int := idxN p n 0
theorem idxN_none {p : Nat -> Bool} : ∀ (k i : Nat), (∀ j, i <= j -> j < i + k -> p j = false) -> idxN p k i = -1
 | 0, _, _ => rfl
 | k + 1, i, h => by simp only [idxN, h i (Nat.le_refl _) (by omega), cond_false]; exact idxN_none k (i + 1) fun j h1 h2 => h j (by omega) (by omega)
theorem idxN_some {p : Nat -> Bool} {j : Nat} (hj : p j = true) : ∀ (k i : Nat), i <= j -> j < i + k -> (∀ l, i <= l -> l < j -> p l = false) -> idxN p k i = j
 | 0, i, h1, h2, _ => by omega
 | k + 1, i, h1, h2, h => by
   by_cases e : i = j
   ·subst e; simp only [idxN, hj, cond_true]
   ·simp only [idxN, h i (Nat.le_refl _) (by omega), cond_false]
    exact idxN_some hj k (i + 1) (by omega) (by omega) fun l h3 h4 => h l (by omega) h4
theorem idx_none {n : Nat} {p : Nat -> Bool} (h : ∀ j, j < n -> p j = false) : idx n p = -1 := idxN_none n 0 fun j _ h2 => h j (by omega)
theorem idx_some {n : Nat} {p : Nat -> Bool} {j : Nat} (hj : p j = true) (h1 : j < n) (h : ∀ l, l < j -> p l = false) : idx n p = j := idxN_some hj n 0 (by omega) (by omega) fun l _ h4 => h l h4
theorem idx_ex {n : Nat} {p : Nat -> Bool} : (idx n p = -1 /\ ∀ j, j < n -> p j = false) ∨ ∃ j, j < n /\ idx n p = (j : Int) /\ p j = true /\ ∀ l, l < j -> p l = false := by
 by_cases h : ∀ j, j < n -> p j = false
 ·exact .inl ⟨idx_none h, h⟩
 ·right
  have : ∃ j, j < n /\ p j = true := by
   simp only [Classical.not_forall] at h
   obtain ⟨j, hj, hp⟩ := h
   exact ⟨j, hj, by simpa using hp⟩
  have key : ∀ m, (∃ j, j < m /\ j < n /\ p j = true) -> ∃ j, j < n /\ p j = true /\ ∀ l, l < j -> p l = false := by
   intro m
   induction m with
   | zero => rintro ⟨j, hj, _⟩; omega
   | succ m ih =>
     rintro ⟨j, hj, hn, hp⟩
     by_cases hm : ∃ j, j < m /\ j < n /\ p j = true
     ·exact ih hm
     ·refine ⟨j, hn, hp, fun l hl => ?_⟩
      cases hb : p l with
      | false => rfl
      | true => exact (hm ⟨l, by omega, by omega, hb⟩).elim
  obtain ⟨j, hj, hp⟩ := this
  obtain ⟨j, h1, h2, h3⟩ := key n ⟨j, hj, hj, hp⟩
  exact ⟨j, h1, idx_some h2 h1 h3, h2, h3⟩
def exB (n : Nat) (p : Nat -> Bool) : Bool := !allB n fun i => !p i
theorem idx_geq {n : Nat} {p : Nat -> Bool} : decide (0 <= idx n p) = exB n p := by
 rcases idx_ex (n := n) (p := p) with ⟨h1, h2⟩ | ⟨j, h1, h2, h3, _⟩
 ·rw [h1]; unfold exB; rw [allB_of fun i hi => by rw [h2 i hi]; rfl]; rfl
 ·rw [h2]; unfold exB; rw [allB_false j h1 (by rw [h3]; rfl)]; simp
section
variable {S : Type} {step : S -> RT S} {r : V}
theorem Ev.st {s : S} (h0 : noAll (step s) = true) (h : evR (Ev step) (step s) r) : Ev step s r := Ev.of h0 h
end
end Go.Dx
namespace Go.Dx
open Go.IntKind (i64 u64 u8)
open Go.Sx
section
variable {S : Type} {step : S -> RT S}
theorem idx_ev {L : Int -> S} {n : Nat} {p : Nat -> Bool} (hn : n <= 9223372036854775807)
 (hst : ∀ i : Nat, step (L i) = .br (decide ((i : Int) < (n : Int))) (.ob (decide (0 <= (i : Int) /\ (i : Int) < (n : Int))) (.obc (.obt (.br (p i) (.ret (.int .i64 i)) (.next [] (L (i64.wrap ((i : Int) + 1))) []))))) (.ret (.int .i64 (-1)))) :
 Ev step (L 0) (.int .i64 (idx n p)) := by
 have key := up_ind (n := n) (P := fun i => (∀ j, j < i -> p j = false) -> Ev step (L i) (.int .i64 (idx n p))) fun i hi ih hj => by
  refine Ev.of (by rw [hst]; rfl) ?_
  rw [hst]
  refine evBr (fun h => ?_) (fun h => ?_)
  ·have hlt : i < n := by simpa using h
   refine evOb (by simpa using hlt) (evObc (evObt (evBr (fun hb => evRet ?_) (fun hb => evNext ?_))))
   ·rw [idx_some hb hlt hj]
   ·rw [wrapS hlt hn]
    exact ih hlt fun j h1 => by
     by_cases e : j = i
     ·subst e; exact hb
     ·exact hj j (by omega)
  ·have : i = n := by have : ¬ i < n := by simpa using h
                      omega
   subst this
   refine evRet ?_
   rw [idx_none hj]
 exact key 0 (Nat.zero_le _) fun j hj => by omega
end
end Go.Dx
namespace Go.Dx
open Go.IntKind (i64 u64 u8)
open Go.Sx
theorem scan {n : Nat} (hn : n <= 9223372036854775807) (p : Nat -> Bool) {P : Int -> Prop} (hstep : ∀ i : Nat, i < n -> (∀ j, j < i -> p j = false) -> (p i = false -> P (i64.wrap ((i : Int) + 1))) -> P i) (hend : (∀ j, j < n -> p j = false) -> P n) : P 0 := by
 have key := up_ind (n := n) (P := fun i => (∀ j, j < i -> p j = false) -> P i) fun i hi ih hj => by
  by_cases hlt : i < n
  ·refine hstep i hlt hj fun hp => ?_
   rw [wrapS hlt hn]
   exact ih hlt fun j h1 => by
    by_cases e : j = i
    ·subst e; exact hp
    ·exact hj j (by omega)
  ·have : i = n := by omega
   subst this; exact hend hj
 exact key 0 (Nat.zero_le _) fun j hj => by omega
section
variable {S : Type} {Nx : S -> V -> Prop} {r : V} {x y : RT S} {i n : Nat}
theorem evBrLt (h : i < n) (hx : evR Nx x r) : evR Nx (.br (decide ((i : Int) < (n : Int))) x y) r := ⟨fun _ => hx, fun k => by have := of_decide_eq_false k; omega⟩
theorem evBrGe (hy : evR Nx y r) : evR Nx (.br (decide ((n : Int) < (n : Int))) x y) r := ⟨(fun k => by have := of_decide_eq_true k; omega), fun _ => hy⟩
theorem evObLt (h : i < n) (hx : evR Nx x r) : evR Nx (.ob (decide (0 <= (i : Int) /\ (i : Int) < (n : Int))) x) r := ⟨decide_eq_true (by omega), hx⟩
theorem evBrT {b : Bool} (h : b = true) (hx : evR Nx x r) : evR Nx (.br b x y) r := ⟨fun _ => hx, fun k => by rw [h] at k; cases k⟩
theorem evBrF {b : Bool} (h : b = false) (hy : evR Nx y r) : evR Nx (.br b x y) r := ⟨(fun k => by rw [h] at k; cases k), fun _ => hy⟩
end
end Go.Dx
namespace Go.Dx
open Go.IntKind (i64 u64 u8)
theorem exB_true {n : Nat} {p : Nat -> Bool} (i : Nat) (hi : i < n) (h : p i = true) : exB n p = true := by
 unfold exB; rw [allB_false i hi (by rw [h]; rfl)]; rfl
theorem exB_false {n : Nat} {p : Nat -> Bool} (h : ∀ i, i < n -> p i = false) : exB n p = false := by
 unfold exB; rw [allB_of fun i hi => by rw [h i hi]; rfl]; rfl
theorem exB_iff {n : Nat} {p : Nat -> Bool} : exB n p = true ↔ ∃ i, i < n /\ p i = true := by
 constructor
 ·intro h
  apply Classical.byContradiction
  intro hn
  rw [exB_false fun i hi => by
   cases hp : p i with
   | false => rfl
   | true => exact (hn ⟨i, hi, hp⟩).elim] at h
  cases h
 ·rintro ⟨i, hi, h⟩; exact exB_true i hi h
end Go.Dx
namespace Go.Dx
open Go.IntKind (i64 u64 u8)
open Go.Sx
def firstI (n : Nat) (c : Nat -> Int) : Int := bif idx n (fun i => c i != 0) == -1 then 0 else idx n fun i => c i != 0
def firstE (n : Nat) (c : Nat -> Int) : Int := bif idx n (fun i => c i != 0) == -1 then 0 else c (idx n fun i => c i != 0).toNat
theorem first_none {n : Nat} {c : Nat -> Int} (h : ∀ j, j < n -> (c j != 0) = false) : firstI n c = 0 /\ firstE n c = 0 := by
 unfold firstI firstE; rw [idx_none h]; exact ⟨rfl, rfl⟩
theorem first_some {n : Nat} {c : Nat -> Int} {i : Nat} (hi : i < n) (hc : (c i != 0) = true) (h : ∀ j, j < i -> (c j != 0) = false) : firstI n c = i /\ firstE n c = c i := by
 unfold firstI firstE; rw [idx_some hc hi h]
 have : ((i : Int) == -1) = false := by rw [beq_eq_false_iff_ne]; omega
 rw [this]; exact ⟨rfl, rfl⟩
section
variable {S : Type} {step : S -> RT S}
theorem first_ev {L : Int -> S} {n : Nat} {c : Nat -> Int} {Q : Nat -> Prop} {ρ : Rho} (W : Nat -> RT S -> RT S) (hW : ∀ i x r, Q i -> evR (Ev step) x r -> evR (Ev step) (W i x) r) (hWn : ∀ i x, noAll (W i x) = noAll x) (hn : n <= 9223372036854775807) (hQ : ∀ i, i < n -> Q i)
 (hst : ∀ i : Nat, step (L i) = .br (decide ((i : Int) < (n : Int))) (.ob (decide (0 <= (i : Int) /\ (i : Int) < (n : Int))) (.ob (decide (0 <= (i : Int) /\ (i : Int) <= (n : Int))) (W i (.br (c i != 0) (.ret (.tup [.int .i64 i, .int .i64 (c i)])) (.next ρ (L (i64.wrap ((i : Int) + 1))) []))))) (.ret (.tup [.int .i64 0, .int .i64 0]))) :
 Ev step (L 0) (.tup [.int .i64 (firstI n c), .int .i64 (firstE n c)]) :=
 scan hn (fun i => c i != 0) (P := fun i => Ev step (L i) (.tup [.int .i64 (firstI n c), .int .i64 (firstE n c)])) (fun i hlt hj next => Ev.of (by rw [hst]; simp only [noAll, hWn, Bool.and_self]) (by
  rw [hst]
  refine evBrLt hlt (evObLt hlt (evOb (decide_eq_true (by omega)) (hW i _ _ (hQ i hlt) (evBr (fun hb => evRet ?_) (fun hb => evNext (next hb))))))
  rw [(first_some hlt hb hj).1, (first_some hlt hb hj).2])) (fun hj => Ev.of (by rw [hst]; simp only [noAll, hWn, Bool.and_self]) (by
  rw [hst]
  refine evBrGe (evRet ?_)
  rw [(first_none hj).1, (first_none hj).2]))
end
def SzOk (n : Nat) (f : Nat -> List V) : Prop := ∀ i, i < n -> (sv (hdV (f i))).size <= 9223372036854775807
end Go.Dx
namespace Go.Dx
open Go.IntKind (i64 u64 u8)
theorem ng {b : Bool} (h : (!!b) = true) : (!b) = false := by cases b <;> first | rfl | cases h
end Go.Dx
namespace Go.Dx
open Go.IntKind (i64 u64 u8)
open Go.Sx Go.Proofs
def ctB3 : CTab := (134, .con C134) :: (135, .con C135) :: (78, .con C78) :: (54, .con C54) :: (48, .con C48) :: (102, .con C102) :: ctB2
theorem tabB3 : TabOk Tryz.prog eqs its ctB3 := .con ok134 (.con ok135 (.con ok78 (.con ok54 (.con ok48 (.con ok102 (tabB2))))))
def m103 (x0 x1 x2 x3 x4 x5 x6 : Int) : RT Empty := .obc (.obt (.obc (.obt (.obc (.obt (.obc (.obt (.br (decide (F85_0 (F84_0 x4 x0) (F84_1 x5 x1) (F84_0 x2 x0) (F84_1 x3 x1) <= 0)) (.obc (.obt (.ret (V.bool (decide (F85_0 (F84_0 x4 x0) (F84_1 x5 x1) (F84_0 x4 x0) (F84_1 x5 x1) <= i64.wrap (x6 * x6))))))) (.br (decide (F85_0 (F84_0 x2 x0) (F84_1 x3 x1) (F84_0 x2 x0) (F84_1 x3 x1) <= F85_0 (F84_0 x4 x0) (F84_1 x5 x1) (F84_0 x2 x0) (F84_1 x3 x1))) (.obc (.obt (.obc (.obt (.ret (V.bool (decide (F85_0 (F84_0 x4 x2) (F84_1 x5 x3) (F84_0 x4 x2) (F84_1 x5 x3) <= i64.wrap (x6 * x6))))))))) (.obc (.obt (.obc (.obt (.obc (.obt (.obc (.obt (.ret (V.bool (F135_0 (F134_0 (max (F127_0 (F84_0 x2 x0) (F84_1 x3 x1) (F84_0 x4 x0) (F84_1 x5 x1)) (i64.wrap (0 - F127_0 (F84_0 x2 x0) (F84_1 x3 x1) (F84_0 x4 x0) (F84_1 x5 x1)))) (max (F127_0 (F84_0 x2 x0) (F84_1 x3 x1) (F84_0 x4 x0) (F84_1 x5 x1)) (i64.wrap (0 - F127_0 (F84_0 x2 x0) (F84_1 x3 x1) (F84_0 x4 x0) (F84_1 x5 x1))))) (F134_1 (max (F127_0 (F84_0 x2 x0) (F84_1 x3 x1) (F84_0 x4 x0) (F84_1 x5 x1)) (i64.wrap (0 - F127_0 (F84_0 x2 x0) (F84_1 x3 x1) (F84_0 x4 x0) (F84_1 x5 x1)))) (max (F127_0 (F84_0 x2 x0) (F84_1 x3 x1) (F84_0 x4 x0) (F84_1 x5 x1)) (i64.wrap (0 - F127_0 (F84_0 x2 x0) (F84_1 x3 x1) (F84_0 x4 x0) (F84_1 x5 x1))))) (F134_0 (i64.wrap (x6 * x6)) (F85_0 (F84_0 x2 x0) (F84_1 x3 x1) (F84_0 x2 x0) (F84_1 x3 x1))) (F134_1 (i64.wrap (x6 * x6)) (F85_0 (F84_0 x2 x0) (F84_1 x3 x1) (F84_0 x2 x0) (F84_1 x3 x1)))))))))))))))))))))))
theorem run103 (x0 x1 x2 x3 x4 x5 x6 : Int) : Fit noD (runL JJ ctB3 u0 s103 [V.agg [vi x0, vi x1, vi x2, vi x3], V.agg [vi x4, vi x5], vi x6]) (m103 x0 x1 x2 x3 x4 x5 x6) := ⟨by kernel_rfl, by kernel_rfl⟩
def F103_0 (x0 x1 x2 x3 x4 x5 x6 : Int) : Bool := bif decide (F85_0 (F84_0 x4 x0) (F84_1 x5 x1) (F84_0 x2 x0) (F84_1 x3 x1) <= 0) then decide (F85_0 (F84_0 x4 x0) (F84_1 x5 x1) (F84_0 x4 x0) (F84_1 x5 x1) <= i64.wrap (x6 * x6)) else bif decide (F85_0 (F84_0 x2 x0) (F84_1 x3 x1) (F84_0 x2 x0) (F84_1 x3 x1) <= F85_0 (F84_0 x4 x0) (F84_1 x5 x1) (F84_0 x2 x0) (F84_1 x3 x1)) then decide (F85_0 (F84_0 x4 x2) (F84_1 x5 x3) (F84_0 x4 x2) (F84_1 x5 x3) <= i64.wrap (x6 * x6)) else F135_0 (F134_0 (max (F127_0 (F84_0 x2 x0) (F84_1 x3 x1) (F84_0 x4 x0) (F84_1 x5 x1)) (i64.wrap (0 - F127_0 (F84_0 x2 x0) (F84_1 x3 x1) (F84_0 x4 x0) (F84_1 x5 x1)))) (max (F127_0 (F84_0 x2 x0) (F84_1 x3 x1) (F84_0 x4 x0) (F84_1 x5 x1)) (i64.wrap (0 - F127_0 (F84_0 x2 x0) (F84_1 x3 x1) (F84_0 x4 x0) (F84_1 x5 x1))))) (F134_1 (max (F127_0 (F84_0 x2 x0) (F84_1 x3 x1) (F84_0 x4 x0) (F84_1 x5 x1)) (i64.wrap (0 - F127_0 (F84_0 x2 x0) (F84_1 x3 x1) (F84_0 x4 x0) (F84_1 x5 x1)))) (max (F127_0 (F84_0 x2 x0) (F84_1 x3 x1) (F84_0 x4 x0) (F84_1 x5 x1)) (i64.wrap (0 - F127_0 (F84_0 x2 x0) (F84_1 x3 x1) (F84_0 x4 x0) (F84_1 x5 x1))))) (F134_0 (i64.wrap (x6 * x6)) (F85_0 (F84_0 x2 x0) (F84_1 x3 x1) (F84_0 x2 x0) (F84_1 x3 x1))) (F134_1 (i64.wrap (x6 * x6)) (F85_0 (F84_0 x2 x0) (F84_1 x3 x1) (F84_0 x2 x0) (F84_1 x3 x1)))
def R103 (x0 x1 x2 x3 x4 x5 x6 : Int) : V := .bool (F103_0 x0 x1 x2 x3 x4 x5 x6)
theorem ev103 (x0 x1 x2 x3 x4 x5 x6 : Int) : evR noE (m103 x0 x1 x2 x3 x4 x5 x6) (R103 x0 x1 x2 x3 x4 x5 x6) := evObc (evObt (evObc (evObt (evObc (evObt (evObc (evObt (evBr (fun h0 => evObc (evObt (evRet (by unfold R103 F103_0; try rw [h0]; rfl)))) (fun h0 => evBr (fun h1 => evObc (evObt (evObc (evObt (evRet (by unfold R103 F103_0; try rw [h0]; try rw [h1]; rfl)))))) (fun h1 => evObc (evObt (evObc (evObt (evObc (evObt (evObc (evObt (evRet (by unfold R103 F103_0; try rw [h0]; try rw [h1]; rfl)))))))))))))))))))
def C103 : PCon := mkC [.agg tp4, .agg tp2, .int .i64] (fun _ => True) fun
 | [.agg [.int _ x0, .int _ x1, .int _ x2, .int _ x3], .agg [.int _ x4, .int _ x5], .int _ x6] => R103 x0 x1 x2 x3 x4 x5 x6
 | _ => .any
theorem ok103 : (vP C103).Ok Tryz.prog 103 := mkE tabB3 Tryz.func103 (by kernel_rfl) fun ds hp => rf0 (run103 ..) (ev103 _ _ _ _ _ _ _)
def F106_0 (x0 x1 x2 x3 x4 x5 x6 : Int) : Bool := bif decide (F92_0 (F93_0 x0 x2) (F93_1 x1 x3) (F93_0 x4 x2) (F93_1 x5 x3) <= 0) then decide (F92_0 (F93_0 x0 x2) (F93_1 x1 x3) (F93_0 x0 x2) (F93_1 x1 x3) <= i64.wrap (x6 * x6)) else bif decide (F92_0 (F93_0 x4 x2) (F93_1 x5 x3) (F93_0 x4 x2) (F93_1 x5 x3) <= F92_0 (F93_0 x0 x2) (F93_1 x1 x3) (F93_0 x4 x2) (F93_1 x5 x3)) then decide (F92_0 (F93_0 x0 x4) (F93_1 x1 x5) (F93_0 x0 x4) (F93_1 x1 x5) <= i64.wrap (x6 * x6)) else !F137_0 (F138_0 (F136_0 (F79_0 (F93_0 x4 x2) (F93_1 x5 x3) (F93_0 x0 x2) (F93_1 x1 x3))) (F136_0 (F79_0 (F93_0 x4 x2) (F93_1 x5 x3) (F93_0 x0 x2) (F93_1 x1 x3)))) (F138_1 (F136_0 (F79_0 (F93_0 x4 x2) (F93_1 x5 x3) (F93_0 x0 x2) (F93_1 x1 x3))) (F136_0 (F79_0 (F93_0 x4 x2) (F93_1 x5 x3) (F93_0 x0 x2) (F93_1 x1 x3)))) (F138_0 (i64.wrap (x6 * x6)) (F92_0 (F93_0 x4 x2) (F93_1 x5 x3) (F93_0 x4 x2) (F93_1 x5 x3))) (F138_1 (i64.wrap (x6 * x6)) (F92_0 (F93_0 x4 x2) (F93_1 x5 x3) (F93_0 x4 x2) (F93_1 x5 x3)))
def F110_0 (x0 x1 x2 x3 x4 x5 x6 x7 : Int) : Bool := bif !F79_0 (F93_0 x4 x2) (F93_1 x5 x3) (F93_0 x6 x2) (F93_1 x7 x3) == 0 then bif bif bif decide (0 <= F144_0 (F79_0 (F93_0 x4 x2) (F93_1 x5 x3) (F93_0 x0 x2) (F93_1 x1 x3))) then decide (0 <= F144_0 (F79_0 (F93_0 x6 x4) (F93_1 x7 x5) (F93_0 x0 x4) (F93_1 x1 x5))) else false then decide (0 <= F144_0 (F79_0 (F93_0 x2 x6) (F93_1 x3 x7) (F93_0 x0 x6) (F93_1 x1 x7))) else false then true else bif bif decide (F144_0 (F79_0 (F93_0 x4 x2) (F93_1 x5 x3) (F93_0 x0 x2) (F93_1 x1 x3)) <= 0) then decide (F144_0 (F79_0 (F93_0 x6 x4) (F93_1 x7 x5) (F93_0 x0 x4) (F93_1 x1 x5)) <= 0) else false then decide (F144_0 (F79_0 (F93_0 x2 x6) (F93_1 x3 x7) (F93_0 x0 x6) (F93_1 x1 x7)) <= 0) else false else false
def m100 (x0 : Int) : RT Empty := .obc (.obt (.ret (V.bool (F86_0 x0 (-100000) 100000))))
theorem run100 (x0 : Int) : Fit noD (runL JJ ctB3 u0 s100 [vi x0]) (m100 x0) := ⟨by kernel_rfl, by kernel_rfl⟩
def F100_0 (x0 : Int) : Bool := F86_0 x0 (-100000) 100000
def R100 (x0 : Int) : V := .bool (F100_0 x0)
theorem ev100 (x0 : Int) : evR noE (m100 x0) (R100 x0) := evObc (evObt (evRet (by unfold R100 F100_0; rfl)))
def C100 : PCon := mkC tp1 (fun _ => True) fun
 | [.int _ x0] => R100 x0
 | _ => .any
theorem ok100 : (vP C100).Ok Tryz.prog 100 := mkE tabB3 Tryz.func100 (by kernel_rfl) fun ds hp => rf0 (run100 ..) (ev100 _)
def ctB4 : CTab := (103, .con C103) :: (100, .con C100) :: ctB3
theorem tabB4 : TabOk Tryz.prog eqs its ctB4 := .con ok103 (.con ok100 (tabB3))
def m112 (s0 : ByteArray) (x1 : Int) (n2 : Nat) (f2 : FnV) (x4 : Int) (s5 : ByteArray) (x6 : Int) (n7 : Nat) (f7 : FnV) (x9 : Int) : RT Empty := .ret (V.bool (s0.toList == s5.toList))
theorem run112 (s0 : ByteArray) (x1 : Int) (n2 : Nat) (f2 : FnV) (x4 : Int) (s5 : ByteArray) (x6 : Int) (n7 : Nat) (f7 : FnV) (x9 : Int) : Fit noD (runL JJ ctB4 u0 s112 [V.agg [V.str s0, vi x1, V.sl n2 (elV tp2 f2), vi x4], V.pd [V.str s5, vi x6, V.sl n7 (elV tp2 f7), vi x9]]) (m112 s0 x1 n2 f2 x4 s5 x6 n7 f7 x9) := ⟨by kernel_rfl, by kernel_rfl⟩
def F112_0 (s0 : ByteArray) (s5 : ByteArray) : Bool := s0.toList == s5.toList
def R112 (s0 : ByteArray) (x1 : Int) (n2 : Nat) (f2 : FnV) (x4 : Int) (s5 : ByteArray) (x6 : Int) (n7 : Nat) (f7 : FnV) (x9 : Int) : V := .bool (F112_0 s0 s5)
theorem ev112 (s0 : ByteArray) (x1 : Int) (n2 : Nat) (f2 : FnV) (x4 : Int) (s5 : ByteArray) (x6 : Int) (n7 : Nat) (f7 : FnV) (x9 : Int) : evR noE (m112 s0 x1 n2 f2 x4 s5 x6 n7 f7 x9) (R112 s0 x1 n2 f2 x4 s5 x6 n7 f7 x9) := evRet (by unfold R112 F112_0; rfl)
def C112 : PCon := mkC [.agg tyR, .pd tyR] (fun _ => True) fun
 | [.agg [.str s0, .int _ x1, .sl n2 f2, .int _ x4], .pd [.str s5, .int _ x6, .sl n7 f7, .int _ x9]] => R112 s0 x1 n2 f2 x4 s5 x6 n7 f7 x9
 | _ => .any
theorem ok112 : (vP C112).Ok Tryz.prog 112 := mkE tabB4 Tryz.func112 (by kernel_rfl) fun ds hp => rf0 (run112 ..) (ev112 _ _ _ _ _ _ _ _ _ _)
def m118 (x0 x1 x2 x3 : Int) : RT Empty := .obc (.obt (.obi (.obi (.obi (.br (!F86_0 x1 1 1000) (.ob (!F86_0 x1 1 1000) (.ob (!F86_0 x1 1 1000) (.obc (.obt (.obi (.br (!F86_0 x0 0 (i64.wrap (x1 - 1))) (.ob (!F86_0 x0 0 (i64.wrap (x1 - 1))) (.obc (.obt (.obi (.obi (.obi (.br (!F86_0 x3 1 1000) (.ob (!F86_0 x3 1 1000) (.ob (!F86_0 x3 1 1000) (.obc (.obt (.ret (V.bool (F86_0 x2 0 (i64.wrap (x3 - 1))))))))) (.ret (V.kb true))))))))) (.ret (V.kb true)))))))) (.ret (V.kb true)))))))
theorem run118 (x0 x1 x2 x3 : Int) : Fit noD (runL JJ ctB4 u0 s118 [V.agg [vi x0, vi x1, vi x2, vi x3]]) (m118 x0 x1 x2 x3) := ⟨by kernel_rfl, by kernel_rfl⟩
def F118_0 (x0 x1 x2 x3 : Int) : Bool := bif !F86_0 x1 1 1000 then bif !F86_0 x0 0 (i64.wrap (x1 - 1)) then bif !F86_0 x3 1 1000 then F86_0 x2 0 (i64.wrap (x3 - 1)) else true else true else true
def R118 (x0 x1 x2 x3 : Int) : V := .bool (F118_0 x0 x1 x2 x3)
theorem ev118 (x0 x1 x2 x3 : Int) : evR noE (m118 x0 x1 x2 x3) (R118 x0 x1 x2 x3) := evObc (evObt (evObi (evObi (evObi (evBr (fun h0 => evOb (by first | assumption | (fail)) (evOb (by first | assumption | (fail)) (evObc (evObt (evObi (evBr (fun h1 => evOb (by first | assumption | (fail)) (evObc (evObt (evObi (evObi (evObi (evBr (fun h2 => evOb (by first | assumption | (fail)) (evOb (by first | assumption | (fail)) (evObc (evObt (evRet (by unfold R118 F118_0; try rw [h0]; try rw [h1]; try rw [h2]; rfl)))))) (fun h2 => evRet (by unfold R118 F118_0; try rw [h0]; try rw [h1]; try rw [h2]; rfl))))))))) (fun h1 => evRet (by unfold R118 F118_0; try rw [h0]; try rw [h1]; rfl)))))))) (fun h0 => evRet (by unfold R118 F118_0; try rw [h0]; rfl)))))))
def C118 : PCon := mkC [.agg tp4] (fun _ => True) fun
 | [.agg [.int _ x0, .int _ x1, .int _ x2, .int _ x3]] => R118 x0 x1 x2 x3
 | _ => .any
theorem ok118 : (vP C118).Ok Tryz.prog 118 := mkE tabB4 Tryz.func118 (by kernel_rfl) fun ds hp => rf0 (run118 ..) (ev118 _ _ _ _)
def m120 (s0 : ByteArray) (x1 x2 x3 x4 x5 : Int) (s6 : ByteArray) (x7 x8 x9 x10 x11 : Int) : RT Empty := .ret (V.bool (s0.toList == s6.toList))
theorem run120 (s0 : ByteArray) (x1 x2 x3 x4 x5 : Int) (s6 : ByteArray) (x7 x8 x9 x10 x11 : Int) : Fit noD (runL JJ ctB4 u0 s120 [V.agg [V.str s0, vi x1, vi x2, vi x3, vi x4, vi x5], V.pd [V.str s6, vi x7, vi x8, vi x9, vi x10, vi x11]]) (m120 s0 x1 x2 x3 x4 x5 s6 x7 x8 x9 x10 x11) := ⟨by kernel_rfl, by kernel_rfl⟩
def F120_0 (s0 : ByteArray) (s6 : ByteArray) : Bool := s0.toList == s6.toList
def R120 (s0 : ByteArray) (x1 x2 x3 x4 x5 : Int) (s6 : ByteArray) (x7 x8 x9 x10 x11 : Int) : V := .bool (F120_0 s0 s6)
theorem ev120 (s0 : ByteArray) (x1 x2 x3 x4 x5 : Int) (s6 : ByteArray) (x7 x8 x9 x10 x11 : Int) : evR noE (m120 s0 x1 x2 x3 x4 x5 s6 x7 x8 x9 x10 x11) (R120 s0 x1 x2 x3 x4 x5 s6 x7 x8 x9 x10 x11) := evRet (by unfold R120 F120_0; rfl)
def C120 : PCon := mkC [.agg tyC, .pd tyC] (fun _ => True) fun
 | [.agg [.str s0, .int _ x1, .int _ x2, .int _ x3, .int _ x4, .int _ x5], .pd [.str s6, .int _ x7, .int _ x8, .int _ x9, .int _ x10, .int _ x11]] => R120 s0 x1 x2 x3 x4 x5 s6 x7 x8 x9 x10 x11
 | _ => .any
theorem ok120 : (vP C120).Ok Tryz.prog 120 := mkE tabB4 Tryz.func120 (by kernel_rfl) fun ds hp => rf0 (run120 ..) (ev120 _ _ _ _ _ _ _ _ _ _ _ _)
def F51 (n0 : Nat) (f0 : FnV) : Bool := allB n0 fun i => F71_0 (jv0 (f0 i)) (-100000) 100000
inductive S133 where
 | L0 (ia0 : Int)
def inv133 (n0 : Nat) (f0 : FnV) : S133 -> Env × List O × Option Ex
 | .L0 ia0 => ([(8, vi ia0), (7, vi (↑n0 : Int)), (6, V.sl n0 (elV tp1 f0)), (4, vi 0), (0, V.sl n0 (elV tp1 f0)), (1, V.fn 100 [] [])], [], none)
def id133 : S133 -> JJ
 | .L0 ia0 => (0, [])
def rl133 (n0 : Nat) (f0 : FnV) : T (Leaf JJ) := runL JJ ctB4 u0 s133 [V.sl n0 (elV tp1 f0), V.fn 100 [] []]
def lp133_0 (n0 : Nat) (f0 : FnV) (cx : List Cx) : Lp JJ := lpT (atT (rl133 n0 f0) [])
def lp133 (n0 : Nat) (f0 : FnV) : JJ -> Lp JJ
 | (0, cx) => lp133_0 n0 f0 cx
 | (_, cx) => lp133_0 n0 f0 cx
def D133 (n0 : Nat) (f0 : FnV) : LD JJ S133 := ⟨id133, lp133 n0 f0, inv133 n0 f0⟩
def st133 (n0 : Nat) (f0 : FnV) : S133 -> RT S133
 | .L0 ia0 => .br (decide (ia0 < (↑n0 : Int))) (.ob (decide (0 <= ia0 /\ ia0 < (↑n0 : Int))) (.obc (.obt (.br (F100_0 (jv0 (f0 ia0.toNat))) (.ret (vi ia0)) (.next [] (S133.L0 (i64.wrap (ia0 + 1))) []))))) (.ret (vi (-1)))
def m133 (n0 : Nat) (f0 : FnV) : RT S133 := .asm (true = true -> n0 <= 9223372036854775807) (.enter [] (S133.L0 (0)) [])
theorem run133 (n0 : Nat) (f0 : FnV) : Fits ctB4 u0 (D133 n0 f0) (rl133 n0 f0) (m133 n0 f0) (st133 n0 f0) := ⟨⟨by kernel_rfl, by kernel_rfl⟩, fun s => by cases s <;> exact ⟨by kernel_rfl, by kernel_rfl⟩⟩
def F133 (n0 : Nat) (f0 : FnV) : Int   := idx n0 fun ii => F100_0 (jv0 (f0 ii))
theorem ev133_0 (n0 : Nat) (f0 : FnV) : evR (Ev (st133 n0 f0)) (m133 n0 f0) (.int .i64 (F133 n0 f0)) := evAsm1 fun hn => evEnter (idx_ev hn fun i => rfl)
theorem ev133 (n0 : Nat) (f0 : FnV) : evR (Ev (st133 n0 f0)) (m133 n0 f0) (.int .i64 (F133 n0 (elV tp1 f0))) := ev133_0 n0 f0
def C133 : PCon := mkC [.sl tp1, .fn 100 [] []] (fun _ => True) fun
 | [.sl n0 f0, .fn _ [] []] => .int .i64 (F133 n0 f0)
 | _ => .any
theorem ok133 : (vP C133).Ok Tryz.prog 133 := mkE tabB4 Tryz.func133 (by kernel_rfl) fun ds hp => rfs (run133 ..) (ev133 _ _)
end Go.Dx
