/- Part 5 of a proof. No conditions. -/
import Derived.Test.YtkdokmjehblpoaaGreatDoorRp4
set_option maxRecDepth 100000
set_option linter.unusedVariables false
set_option linter.unusedSimpArgs false
namespace Go.Dx
section
variable {a b c p q z m x y w d : P2} {D : P2 -> Prop}
theorem joint0 (ha : ltP a z) (hc : ltP c z) (h0 : sdp a z c = 0) (hq : leP q z) (h1 : 0 <= sdp a z q) (h2 : 0 <= sdp z c q) : sdp a z q = 0 := by
 rcases ltP_tri q z with k | rfl | k
 ·have e1 : sdp a z q = -((z.1 - a.1) * (z.2 - q.2) - (z.2 - a.2) * (z.1 - q.1)) := by unfold sdp sd; grind
  have e2 : sdp z c q = (z.1 - c.1) * (z.2 - q.2) - (z.2 - c.2) * (z.1 - q.1) := by unfold sdp sd; grind
  have e3 : sdp a z c = -((z.1 - a.1) * (z.2 - c.2) - (z.2 - a.2) * (z.1 - c.1)) := by unfold sdp sd; grind
  rw [e3] at h0; rw [e2] at h2; rw [e1] at h1
  have := crT (pv_of ha) (pv_of hc) (pv_of k) (by omega) h2
  rw [e1]; omega
 ·exact sdp_1 _ _
 ·exact (ltP_irr _ (leP_lt hq k)).elim
theorem ltP_ne (h : ltP a z) : ¬ (z.1 - a.1 = 0 /\ z.2 - a.2 = 0) := by unfold ltP at h; omega
theorem flat3 (h : ltP a z) (hx : sdp a z x = 0) (hy : sdp a z y = 0) (hw : sdp a z w = 0) : sdp x y w = 0 := by
 have k1 : (z.1 - a.1) * sdp x y w = (w.1 - x.1) * (sdp a z x - sdp a z y) + (y.1 - x.1) * (sdp a z w - sdp a z x) := by unfold sdp sd; grind
 have k2 : (z.2 - a.2) * sdp x y w = (w.2 - x.2) * (sdp a z x - sdp a z y) + (y.2 - x.2) * (sdp a z w - sdp a z x) := by unfold sdp sd; grind
 rw [hx, hy, hw] at k1 k2
 simp only [Int.sub_self, Int.mul_zero, Int.add_zero] at k1 k2
 have hn := ltP_ne h
 rcases Int.mul_eq_zero.1 k1 with e | e
 ·rcases Int.mul_eq_zero.1 k2 with e' | e'
  ·exact (hn ⟨e, e'⟩).elim
  ·exact e'
 ·exact e
end
structure Hull (D : P2 -> Prop) (A B : List P2) (z m : P2) : Prop where
 cA : Ch D A
 cB : Ch (fun q => D (ngP q)) (B.map ngP)
 tA : ∃ r, A = z :: r
 tB : ∃ r, B = m :: r
 bA : botS A = m
 bB : botS B = z
 zm : ltP m z
 hz : ∀ q, D q -> leP q z
 hm : ∀ q, D q -> leP m q
theorem bot_ng : ∀ {st : List P2}, st ≠ [] -> botS (st.map ngP) = ngP (botS st)
 | [s], _ => rfl
 | b :: a :: l, _ => bot_ng (st := a :: l) (by simp)
theorem leP_ng {a b : P2} (h : leP a b) : leP (ngP b) (ngP a) := by unfold leP ngP at *; simp only; omega
theorem pw_ng {l : List P2} (h : l.Pairwise ltP) : (l.reverse.map ngP).Pairwise ltP := by
 rw [List.pairwise_map, List.pairwise_reverse]
 exact h.imp fun h => ltP_ng h
theorem hull_of {m : P2} {l : List P2} (hs : (m :: l).Pairwise ltP) (h2 : l ≠ []) : ∃ z, Hull (fun q => q ∈ m :: l) (chainS [] (m :: l)) (chainS [] (m :: l).reverse) z m := by
 obtain ⟨z, r, e, hc, hz⟩ := ch_all hs
 have hb := bot_le hc
 have hmm : ∀ q ∈ m :: l, leP m q := by
  intro q hq
  rcases List.mem_cons.1 hq with rfl | hq
  ·exact leP_refl _
  ·exact leP_of ((List.pairwise_cons.1 hs).1 q hq)
 have hbm : botS (z :: r) = m := leP_eq (hb.2 m (by simp)) (hmm _ hb.1)
 have hs2 := pw_ng hs
 have hD : ∀ q, q ∈ ((m :: l).reverse.map ngP) ↔ ngP q ∈ m :: l := fun q => by
  rw [List.mem_map]
  constructor
  ·rintro ⟨p, hp, rfl⟩; rw [ng_ng]; exact List.mem_reverse.1 hp
  ·intro hq; exact ⟨ngP q, List.mem_reverse.2 hq, ng_ng q⟩
 have k : ∃ x t, (m :: l).reverse.map ngP = x :: t := by
  cases hr : (m :: l).reverse.map ngP with
  | nil => simp at hr
  | cons x t => exact ⟨x, t, rfl⟩
 obtain ⟨x, t, ex⟩ := k
 have hs3 := hs2
 rw [ex] at hs3
 obtain ⟨z', r', e', hc', hz'⟩ := ch_all hs3
 rw [← ex] at e' hc' hz'
 have en := chainS_ng (m :: l).reverse []
 simp only [List.map_nil] at en
 rw [en] at e'
 have hc2 := hc'.cong hD
 rw [← e'] at hc2
 have hB : ∃ rB, chainS [] (m :: l).reverse = m :: rB := by
  cases hB : chainS [] (m :: l).reverse with
  | nil => rw [hB] at e'; simp at e'
  | cons b rB =>
    rw [hB] at e'
    simp only [List.map_cons, List.cons.injEq] at e'
    have k1 := hz' (ngP m) ((hD _).2 (by rw [ng_ng]; simp))
    have k2 : ngP z' ∈ m :: l := by
     have : z' ∈ (m :: l).reverse.map ngP := ch_mem hc' z' (by simp)
     exact (hD _).1 this
    have k3 := leP_ng k1
    rw [ng_ng, ← e'.1, ng_ng] at k3
    rw [← e'.1, ng_ng] at k2
    exact ⟨rB, by rw [leP_eq k3 (hmm _ k2)]⟩
 refine ⟨z, ⟨by rw [e]; exact hc, hc2, ⟨r, e⟩, hB, by rw [e]; exact hbm, ?_, ?_, hz, hmm⟩⟩
 ·obtain ⟨rB, eB⟩ := hB
  have hb2 := bot_le hc2
  rw [bot_ng (by rw [eB]; simp)] at hb2
  have k1 := hb2.2 (ngP z) (by show ngP (ngP z) ∈ _; rw [ng_ng]; exact ch_mem hc z (by simp))
  have k2 := leP_ng k1
  rw [ng_ng, ng_ng] at k2
  have k3 := hb2.1
  rw [show (ngP (ngP (botS (chainS [] (m :: l).reverse)))) = _ from ng_ng _] at k3
  exact leP_eq (hz _ k3) k2
 ·cases l with
  | nil => exact (h2 rfl).elim
  | cons y l =>
    have := (List.pairwise_cons.1 hs).1 y (by simp)
    exact ltP_le this (hz y (by simp))
section
variable {D : P2 -> Prop} {A B : List P2} {z m x y q : P2}
def Ed (A B : List P2) (x y : P2) : Prop := Adj A x y ∨ Adj B x y
theorem Hull.adjB (h : Hull D A B z m) (ha : Adj B x y) : Adj (B.map ngP) (ngP x) (ngP y) := adj_ng.2 (by rw [ng_ng, ng_ng]; exact ha)
theorem Hull.e1 (h : Hull D A B z m) (he : Ed A B x y) : x ≠ y /\ D x /\ D y /\ ∀ q, D q -> 0 <= sdp x y q := by
 rcases he with ha | ha
 ·have k := adj_edge h.cA ha
  have hm := adj_mem ha
  exact ⟨(fun e => by rw [e] at k; exact ltP_irr _ k.1), ch_mem h.cA _ hm.1, ch_mem h.cA _ hm.2, k.2⟩
 ·have ha' := h.adjB ha
  have k := adj_edge h.cB ha'
  have hm := adj_mem ha'
  have k1 := ch_mem h.cB _ hm.1
  have k2 := ch_mem h.cB _ hm.2
  simp only [ng_ng] at k1 k2
  refine ⟨(fun e => by rw [e] at k; exact ltP_irr _ k.1), k1, k2, fun q hq => ?_⟩
  have := k.2 (ngP q) (by rw [ng_ng]; exact hq)
  rwa [sdp_ng] at this
theorem Hull.lenA (h : Hull D A B z m) : 2 <= A.length := by
 obtain ⟨r, e⟩ := h.tA
 cases r with
 | nil =>
   have := h.bA
   rw [e] at this
   simp only [botS] at this
   have k := h.zm; rw [this] at k
   exact (ltP_irr _ k).elim
 | cons a r => rw [e]; simp
theorem Hull.lenB (h : Hull D A B z m) : 2 <= B.length := by
 obtain ⟨r, e⟩ := h.tB
 cases r with
 | nil =>
   have := h.bB
   rw [e] at this
   simp only [botS] at this
   have k := h.zm; rw [this] at k
   exact (ltP_irr _ k).elim
 | cons a r => rw [e]; simp
def NotFlat (D : P2 -> Prop) : Prop := ∃ x y w, D x /\ D y /\ D w /\ sdp x y w ≠ 0
theorem Hull.bend (h : Hull D A B z m) (h3 : 3 <= A.length ∨ 3 <= B.length) : NotFlat D := by
 rcases h3 with h3 | h3
 ·match A, h.cA, h3 with
  | b :: a :: c :: l, hc, _ =>
    have k := hc.2.2.2.1 c rfl
    exact ⟨c, a, b, ch_mem hc c (by simp), ch_mem hc a (by simp), ch_mem hc b (by simp), by omega⟩
 ·match B, h.cB, h3 with
  | b :: a :: c :: l, hc, _ =>
    have k := hc.2.2.2.1 (ngP c) rfl
    rw [sdp_ng] at k
    have k1 := ch_mem hc (ngP c) (by simp)
    have k2 := ch_mem hc (ngP a) (by simp)
    have k3 := ch_mem hc (ngP b) (by simp)
    simp only [ng_ng] at k1 k2 k3
    exact ⟨c, a, b, k1, k2, k3, by omega⟩
theorem notflat_no {a z : P2} (hn : NotFlat D) (hl : ltP a z) (h : ∀ q, D q -> sdp a z q = 0) : False := by
 obtain ⟨x, y, w, hx, hy, hw, hne⟩ := hn
 exact hne (flat3 hl (h x hx) (h y hy) (h w hw))
theorem Hull.jz (h : Hull D A B z m) (hn : NotFlat D) {a c : P2} (ha : Adj A a z) (hc : Adj B z c) : 0 < sdp a z c := by
 have e1 := h.e1 (.inl ha)
 have e2 := h.e1 (.inr hc)
 have l1 := (adj_edge h.cA ha).1
 have l2 := (adj_edge h.cB (h.adjB hc)).1
 have l3 := ltP_ng l2
 rw [ng_ng, ng_ng] at l3
 have k := e1.2.2.2 c e2.2.2.1
 by_cases h0 : sdp a z c = 0
 ·exact (notflat_no hn l1 fun q hq => joint0 l1 l3 h0 (h.hz q hq) (e1.2.2.2 q hq) (e2.2.2.2 q hq)).elim
 ·omega
theorem Hull.jm (h : Hull D A B z m) (hn : NotFlat D) {a c : P2} (ha : Adj B a m) (hc : Adj A m c) : 0 < sdp a m c := by
 have e1 := h.e1 (.inr ha)
 have e2 := h.e1 (.inl hc)
 have l1 := (adj_edge h.cA hc).1
 have l2 := (adj_edge h.cB (h.adjB ha)).1
 have k := e1.2.2.2 c e2.2.2.1
 by_cases h0 : sdp a m c = 0
 ·refine (notflat_no hn (a := m) (z := a) (by have := ltP_ng l2; rwa [ng_ng, ng_ng] at this) fun q hq => ?_).elim
  have := joint0 (a := ngP a) (z := ngP m) (c := ngP c) (q := ngP q) l2 (ltP_ng l1) (by rw [sdp_ng]; exact h0) (leP_ng (h.hm q hq)) (by rw [sdp_ng]; exact e1.2.2.2 q hq) (by rw [sdp_ng]; exact e2.2.2.2 q hq)
  rw [sdp_ng] at this
  rw [sdp_neg]; omega
 ·omega
theorem Hull.next (h : Hull D A B z m) (hn : NotFlat D) (he : Ed A B x y) : ∃ c, Ed A B y c /\ 0 < sdp x y c := by
 rcases he with ha | ha
 ·obtain ⟨r, e⟩ := h.tA
  have hc := h.cA
  rw [e] at hc ha
  rcases adj_next hc ha with rfl | ⟨c, h1, h2⟩
  ·obtain ⟨c, hc⟩ := adj_bot h.lenB
   rw [h.bB] at hc
   exact ⟨c, .inr hc, h.jz hn (by rw [e]; exact ha) hc⟩
  ·exact ⟨c, .inl (by rw [e]; exact h1), h2⟩
 ·obtain ⟨r, e⟩ := h.tB
  have hc := h.cB
  have ha' := h.adjB ha
  rw [e, List.map_cons] at hc ha'
  rcases adj_next hc ha' with e2 | ⟨c, h1, h2⟩
  ·have ey : y = m := by rw [← ng_ng y, e2, ng_ng]
   subst ey
   obtain ⟨c, hc⟩ := adj_bot h.lenA
   rw [h.bA] at hc
   exact ⟨c, .inl hc, h.jm hn ha hc⟩
  ·refine ⟨ngP c, .inr ?_, ?_⟩
   ·rw [← List.map_cons, ← e, adj_ng, ng_ng] at h1; exact h1
   ·rw [← sdp_ng, ng_ng]; exact h2
theorem Hull.prev (h : Hull D A B z m) (hn : NotFlat D) (he : Ed A B x y) : ∃ c, Ed A B c x /\ 0 < sdp c x y := by
 rcases he with ha | ha
 ·rcases adj_prev h.cA ha with e2 | ⟨c, h1, h2⟩
  ·rw [h.bA] at e2; subst e2
   obtain ⟨r, e⟩ := h.tB
   have hl := h.lenB
   match B, e, hl with
   | _ :: a :: l, e, _ =>
     cases e
     exact ⟨a, .inr adj_top, h.jm hn adj_top ha⟩
  ·exact ⟨c, .inl h1, h2⟩
 ·rcases adj_prev h.cB (h.adjB ha) with e2 | ⟨c, h1, h2⟩
  ·obtain ⟨r, e⟩ := h.tB
   rw [bot_ng (by rw [e]; simp), h.bB] at e2
   have ex : x = z := by rw [← ng_ng x, e2, ng_ng]
   subst ex
   obtain ⟨r, e⟩ := h.tA
   have hl := h.lenA
   match A, e, hl with
   | _ :: a :: l, e, _ =>
     cases e
     exact ⟨a, .inl adj_top, h.jz hn adj_top ha⟩
  ·refine ⟨ngP c, .inr ?_, ?_⟩
   ·rw [adj_ng, ng_ng] at h1; exact h1
   ·rw [← sdp_ng, ng_ng]; exact h2
theorem Hull.flat (h : Hull D A B z m) (ha : A.length < 3) (hb : B.length < 3) : A = [z, m] /\ B = [m, z] /\ ∀ q, D q -> sdp m z q = 0 := by
 obtain ⟨r, e⟩ := h.tA
 obtain ⟨s, e'⟩ := h.tB
 have la := h.lenA
 have lb := h.lenB
 have e1 := h.bA
 have e2 := h.bB
 have eA : A = [z, m] := by
  match A, e, la, ha, e1 with
  | [a, b], e, _, _, e1 => cases e; cases e1; rfl
 have eB : B = [m, z] := by
  match B, e', lb, hb, e2 with
  | [a, b], e, _, _, e2 => cases e; cases e2; rfl
 refine ⟨eA, eB, fun q hq => ?_⟩
 have k1 := (h.e1 (x := m) (y := z) (.inl (by rw [eA]; exact adj_top))).2.2.2 q hq
 have k2 := (h.e1 (x := z) (y := m) (.inr (by rw [eB]; exact adj_top))).2.2.2 q hq
 rw [sdp_neg] at k2
 omega
end
def skp (a b : P2) (x y k : Int) : Int := (b.1 - a.1) * (y - k * a.2) - (b.2 - a.2) * (x - k * a.1)
def InH (D : P2 -> Prop) (x y k : Int) : Prop := ∀ A B C : Int, (∀ q, D q -> 0 <= A * q.1 + B * q.2 + C) -> 0 <= A * x + B * y + C * k
def CvN (D : P2 -> Prop) (mx my r : Int) : Prop := ∃ x y k, 0 < k /\ InH D x y k /\ q2 (k * mx - x) (k * my - y) <= (k * r) * (k * r)
theorem inH_sk {D : P2 -> Prop} {x y k : Int} {a b : P2} (h : InH D x y k) (hs : ∀ q, D q -> 0 <= sdp a b q) : 0 <= skp a b x y k := by
 have := h (-(b.2 - a.2)) (b.1 - a.1) (-(b.1 - a.1) * a.2 + (b.2 - a.2) * a.1) fun q hq => by
  have e : -(b.2 - a.2) * q.1 + (b.1 - a.1) * q.2 + (-(b.1 - a.1) * a.2 + (b.2 - a.2) * a.1) = sdp a b q := by unfold sdp sd; grind
  rw [e]; exact hs q hq
 have e : -(b.2 - a.2) * x + (b.1 - a.1) * y + (-(b.1 - a.1) * a.2 + (b.2 - a.2) * a.1) * k = skp a b x y k := by unfold skp; grind
 rwa [e] at this
def prs : List P2 -> List (P2 × P2)
 | b :: a :: l => (a, b) :: prs (a :: l)
 | _ => []
theorem prs_adj : ∀ {st : List P2} {x y : P2}, (x, y) ∈ prs st ↔ Adj st x y
 | [], x, y => by simp [prs, Adj]
 | [_], x, y => by simp [prs, Adj]
 | b :: a :: l, x, y => by simp only [prs, Adj, List.mem_cons, Prod.mk.injEq, prs_adj (st := a :: l)]
theorem exit {mx my x y k : Int} (hk : 0 < k) : ∀ (es : List (P2 × P2)), (∀ e ∈ es, 0 <= skp e.1 e.2 x y k) ->
 ∃ j l, 0 <= j /\ j <= l /\ 0 < l /\ (∀ e ∈ es, 0 <= (l - j) * skp e.1 e.2 x y k + j * (k * sdp e.1 e.2 (mx, my))) /\ (j = l ∨ ∃ e ∈ es, (l - j) * skp e.1 e.2 x y k + j * (k * sdp e.1 e.2 (mx, my)) = 0)
 | [], _ => ⟨1, 1, by omega, by omega, by omega, (fun e he => by cases he), .inl rfl⟩
 | e :: es, h => by
   obtain ⟨j, l, h1, h2, h3, h4, h5⟩ := exit hk es fun f hf => h f (List.mem_cons_of_mem _ hf)
   have hX := h e (by simp)
   by_cases hy : 0 <= (l - j) * skp e.1 e.2 x y k + j * (k * sdp e.1 e.2 (mx, my))
   ·refine ⟨j, l, h1, h2, h3, fun f hf => ?_, ?_⟩
    ·rcases List.mem_cons.1 hf with rfl | hf
     ·exact hy
     ·exact h4 f hf
    ·rcases h5 with h5 | ⟨f, hf, h6⟩
     ·exact .inl h5
     ·exact .inr ⟨f, List.mem_cons_of_mem _ hf, h6⟩
   ·generalize hM : k * sdp e.1 e.2 (mx, my) = M at hy
    generalize hX' : skp e.1 e.2 x y k = X at hX hy
    have hM0 : M < 0 := by
     apply Classical.byContradiction; intro hn
     have k1 := imn h1 (show 0 <= M by omega)
     have k2 := imn (show 0 <= l - j by omega) hX
     omega
    refine ⟨X, X - M, hX, by omega, by omega, fun f hf => ?_, .inr ⟨e, by simp, ?_⟩⟩
    ·rcases List.mem_cons.1 hf with rfl | hf
     ·rw [hX', hM]
      have e : (X - M - X) * X + X * M = 0 := by grind
      omega
     ·have hf4 := h4 f hf
      have hfX := h f (List.mem_cons_of_mem _ hf)
      generalize k * sdp f.1 f.2 (mx, my) = M' at hf4 ⊢
      generalize skp f.1 f.2 x y k = X2 at hf4 hfX ⊢
      by_cases hM2 : 0 <= M'
      ·have k1 := imn (show 0 <= X - M - X by omega) hfX
       have k2 := imn hX hM2
       omega
      ·refine cancel h3 ?_
       rw [Int.mul_zero]
       -- l X <= j (X - M)
       have o : 0 <= j * (X - M) - l * X := by
        have e : j * (X - M) - l * X = -((l - j) * X + j * M) := by grind
        omega
       have k1 := imn o (show 0 <= X2 - M' by omega)
       have k2 := imn (show 0 <= X - M by omega) hf4
       have e : l * ((X - M - X) * X2 + X * M') = (j * (X - M) - l * X) * (X2 - M') + (X - M) * ((l - j) * X2 + j * M') := by grind
       omega
    ·rw [hX', hM]; grind
theorem sq_pos' {x : Int} (h : x ≠ 0) : 0 < x * x := by
 have := sq0 x
 by_cases e : x * x = 0
 ·rcases Int.mul_eq_zero.1 e with e | e <;> exact (h e).elim
 ·omega
theorem on_seg {a b c d : P2} {mx my r x y k : Int} (hk : 0 < k) (h0 : skp a b x y k = 0) (h1 : 0 <= skp d a x y k) (h2 : 0 < sdp d a b) (h3 : 0 <= skp b c x y k) (h4 : 0 < sdp a b c)
 (hq : q2 (k * mx - x) (k * my - y) <= (k * r) * (k * r)) : Nq a.1 a.2 b.1 b.2 mx my 1 r := by
 unfold sdp sd at h2 h4
 unfold skp at h0 h1 h3
 obtain ⟨a1, a2⟩ := a
 obtain ⟨b1, b2⟩ := b
 obtain ⟨c1, c2⟩ := c
 obtain ⟨d1, d2⟩ := d
 simp only at *
 have hdd : 0 < (b1 - a1) * (b1 - a1) + (b2 - a2) * (b2 - a2) := by
  by_cases e : b1 - a1 = 0
  ·by_cases e' : b2 - a2 = 0
   ·rw [show b1 = a1 by omega, show b2 = a2 by omega] at h2
    have : (a1 - d1) * (a2 - d2) - (a2 - d2) * (a1 - d1) = 0 := by grind
    omega
   ·have := sq_pos' e'; have := sq0 (b1 - a1); omega
  ·have := sq_pos' e; have := sq0 (b2 - a2); omega
 have ex : ((b1 - a1) * (b1 - a1) + (b2 - a2) * (b2 - a2)) * (x - k * a1) = ((b1 - a1) * (x - k * a1) + (b2 - a2) * (y - k * a2)) * (b1 - a1) - (b2 - a2) * ((b1 - a1) * (y - k * a2) - (b2 - a2) * (x - k * a1)) := by grind
 have ey : ((b1 - a1) * (b1 - a1) + (b2 - a2) * (b2 - a2)) * (y - k * a2) = ((b1 - a1) * (x - k * a1) + (b2 - a2) * (y - k * a2)) * (b2 - a2) + (b1 - a1) * ((b1 - a1) * (y - k * a2) - (b2 - a2) * (x - k * a1)) := by grind
 rw [h0, Int.mul_zero] at ex ey
 have eT : ((b1 - a1) * (b1 - a1) + (b2 - a2) * (b2 - a2)) * ((a1 - d1) * (y - k * d2) - (a2 - d2) * (x - k * d1)) = (a1 - d1) * (((b1 - a1) * (b1 - a1) + (b2 - a2) * (b2 - a2)) * (y - k * a2)) - (a2 - d2) * (((b1 - a1) * (b1 - a1) + (b2 - a2) * (b2 - a2)) * (x - k * a1)) := by grind
 have eU : ((b1 - a1) * (b1 - a1) + (b2 - a2) * (b2 - a2)) * ((c1 - b1) * (y - k * b2) - (c2 - b2) * (x - k * b1)) = (c1 - b1) * (((b1 - a1) * (b1 - a1) + (b2 - a2) * (b2 - a2)) * (y - k * a2) - k * ((b1 - a1) * (b1 - a1) + (b2 - a2) * (b2 - a2)) * (b2 - a2)) - (c2 - b2) * (((b1 - a1) * (b1 - a1) + (b2 - a2) * (b2 - a2)) * (x - k * a1) - k * ((b1 - a1) * (b1 - a1) + (b2 - a2) * (b2 - a2)) * (b1 - a1)) := by grind
 rw [ex, ey] at eT eU
 have k1 := imn (Int.le_of_lt hdd) h1
 have k2 := imn (Int.le_of_lt hdd) h3
 rw [eT] at k1
 rw [eU] at k2
 generalize hT : (b1 - a1) * (x - k * a1) + (b2 - a2) * (y - k * a2) = T at *
 generalize hd : (b1 - a1) * (b1 - a1) + (b2 - a2) * (b2 - a2) = dd at *
 have t1 : 0 <= T := by
  have e : (a1 - d1) * (T * (b2 - a2) + 0) - (a2 - d2) * (T * (b1 - a1) - 0) = ((a1 - d1) * (b2 - d2) - (a2 - d2) * (b1 - d1)) * T := by grind
  rw [e] at k1
  exact cancel h2 (by rw [Int.mul_zero]; exact k1)
 have t2 : T <= k * dd := by
  have e : (c1 - b1) * (T * (b2 - a2) + 0 - k * dd * (b2 - a2)) - (c2 - b2) * (T * (b1 - a1) - 0 - k * dd * (b1 - a1)) = ((b1 - a1) * (c2 - a2) - (b2 - a2) * (c1 - a1)) * (k * dd - T) := by grind
  rw [e] at k2
  have := cancel h4 (a := 0) (b := k * dd - T) (by rw [Int.mul_zero]; exact k2)
  omega
 refine ⟨T, k * dd, t1, t2, Int.mul_pos hk hdd, ?_⟩
 have f1 : k * dd * mx - 1 * ((k * dd - T) * a1 + T * b1) = dd * (k * mx - x) := by
  have : dd * (k * mx - x) = k * dd * mx - (dd * (x - k * a1) + k * dd * a1) := by grind
  rw [this, ex]; grind
 have f2 : k * dd * my - 1 * ((k * dd - T) * a2 + T * b2) = dd * (k * my - y) := by
  have : dd * (k * my - y) = k * dd * my - (dd * (y - k * a2) + k * dd * a2) := by grind
  rw [this, ey]; grind
 rw [f1, f2, q2_mul]
 have := iml hq (sq0 dd)
 have e : k * dd * 1 * r * (k * dd * 1 * r) = dd * dd * (k * r * (k * r)) := by grind
 omega
theorem Hull.near {D : P2 -> Prop} {A B : List P2} {z m : P2} (h : Hull D A B z m) (hn : NotFlat D) {mx my r : Int} (hr : 0 <= r) (hc : CvN D mx my r) {e0 : P2 × P2} (h0 : Ed A B e0.1 e0.2) (hs : sdp e0.1 e0.2 (mx, my) <= 0) :
 ∃ a b, Ed A B a b /\ Nq a.1 a.2 b.1 b.2 mx my 1 r := by
 obtain ⟨x, y, k, hk, hI, hq⟩ := hc
 have hes : ∀ e : P2 × P2, e ∈ prs A ++ prs B ↔ Ed A B e.1 e.2 := fun e => by
  rw [List.mem_append, ← prs_adj.symm.trans Iff.rfl]
  unfold Ed
  rw [← prs_adj, ← prs_adj]
 obtain ⟨j, l, h1, h2, h3, h4, h5⟩ := exit (mx := mx) (my := my) hk (prs A ++ prs B) fun e he => inH_sk hI (h.e1 ((hes e).1 he)).2.2.2
 have sk : ∀ a b : P2, (l - j) * skp a b x y k + j * (k * sdp a b (mx, my)) = skp a b ((l - j) * x + j * k * mx) ((l - j) * y + j * k * my) (k * l) := fun a b => by unfold skp sdp sd; grind
 simp only [sk] at h4 h5
 have key : ∃ e : P2 × P2, Ed A B e.1 e.2 /\ skp e.1 e.2 ((l - j) * x + j * k * mx) ((l - j) * y + j * k * my) (k * l) = 0 := by
  rcases h5 with rfl | ⟨e, he, h6⟩
  ·refine ⟨e0, h0, ?_⟩
   have k1 := h4 e0 ((hes e0).2 h0)
   rw [← sk] at k1 ⊢
   have k2 := imn h1 (imn (Int.le_of_lt hk) (show 0 <= -sdp e0.1 e0.2 (mx, my) by omega))
   have e : j * (k * -sdp e0.1 e0.2 (mx, my)) = -(j * (k * sdp e0.1 e0.2 (mx, my))) := by grind
   have e2 : (j - j) * skp e0.1 e0.2 x y k = 0 := by grind
   omega
  ·exact ⟨e, (hes e).1 he, h6⟩
 obtain ⟨⟨a, b⟩, he, hz⟩ := key
 obtain ⟨c, hc1, hc2⟩ := h.next hn he
 obtain ⟨d, hd1, hd2⟩ := h.prev hn he
 refine ⟨a, b, he, on_seg (Int.mul_pos hk h3) hz (h4 (d, a) ((hes _).2 hd1)) hd2 (h4 (b, c) ((hes _).2 hc1)) hc2 ?_⟩
 have f1 : k * l * mx - ((l - j) * x + j * k * mx) = (l - j) * (k * mx - x) := by grind
 have f2 : k * l * my - ((l - j) * y + j * k * my) = (l - j) * (k * my - y) := by grind
 rw [f1, f2, q2_mul]
 have k1 := iml hq (sq0 (l - j))
 have k2 : (l - j) * (l - j) <= l * l := Int.mul_le_mul (by omega) (by omega) (by omega) (by omega)
 have k3 := Int.mul_le_mul_of_nonneg_right k2 (sq0 (k * r))
 have e : k * l * r * (k * l * r) = l * l * (k * r * (k * r)) := by grind
 omega
theorem pv_dot {vx vy dx dy : Int} (hv : Pv vx vy) (hd : Pv dx dy) (h : dx * vy - dy * vx = 0) : 0 <= dx * vx + dy * vy := by
 unfold Pv at *
 rcases hd with hd | ⟨rfl, hd⟩
 ·refine cancel hd ?_
  rw [Int.mul_zero]
  have e : dx * (dx * vx + dy * vy) = (dx * dx + dy * dy) * vx + dy * (dx * vy - dy * vx) := by grind
  rw [e, h, Int.mul_zero, Int.add_zero]
  exact imn (by have := sq0 dx; have := sq0 dy; omega) (by omega)
 ·have : vx = 0 := by
   rcases Int.mul_eq_zero.1 (show dy * vx = 0 by omega) with e | e <;> omega
  subst this
  have := imn (Int.le_of_lt hd) (show 0 <= vy by omega)
  omega
theorem flat_near {D : P2 -> Prop} {z m : P2} (zm : ltP m z) (hz : ∀ q, D q -> leP q z) (hm : ∀ q, D q -> leP m q) (hf : ∀ q, D q -> sdp m z q = 0) {mx my r : Int} (hr : 0 <= r) (hc : CvN D mx my r) : Nq m.1 m.2 z.1 z.2 mx my 1 r := by
 obtain ⟨x, y, k, hk, hI, hq⟩ := hc
 have s1 := inH_sk (a := m) (b := z) hI fun q hq => by rw [hf q hq]; omega
 have s2 := inH_sk (a := z) (b := m) hI fun q hq => by rw [sdp_neg, hf q hq]; omega
 have hd := pv_of zm
 -- from m on
 have d1 := hI (z.1 - m.1) (z.2 - m.2) (-((z.1 - m.1) * m.1 + (z.2 - m.2) * m.2)) fun q hq => by
  have e : (z.1 - m.1) * q.1 + (z.2 - m.2) * q.2 + -((z.1 - m.1) * m.1 + (z.2 - m.2) * m.2) = (z.1 - m.1) * (q.1 - m.1) + (z.2 - m.2) * (q.2 - m.2) := by grind
  rw [e]
  rcases ltP_tri m q with h | rfl | h
  ·exact pv_dot (pv_of h) hd (by have := hf q hq; unfold sdp sd at this; exact this)
  ·simp
  ·exact (ltP_irr _ (leP_lt (hm q hq) h)).elim
 have d2 := hI (-(z.1 - m.1)) (-(z.2 - m.2)) ((z.1 - m.1) * z.1 + (z.2 - m.2) * z.2) fun q hq => by
  have e : -(z.1 - m.1) * q.1 + -(z.2 - m.2) * q.2 + ((z.1 - m.1) * z.1 + (z.2 - m.2) * z.2) = (z.1 - m.1) * (z.1 - q.1) + (z.2 - m.2) * (z.2 - q.2) := by grind
  rw [e]
  rcases ltP_tri q z with h | rfl | h
  ·refine pv_dot (pv_of h) hd ?_
   have := hf q hq
   unfold sdp sd at this
   have e : (z.1 - m.1) * (z.2 - q.2) - (z.2 - m.2) * (z.1 - q.1) = -((z.1 - m.1) * (q.2 - m.2) - (z.2 - m.2) * (q.1 - m.1)) := by grind
   omega
  ·simp
  ·exact (ltP_irr _ (leP_lt (hz q hq) h)).elim
 unfold skp at s1 s2
 unfold ltP at zm
 obtain ⟨a1, a2⟩ := m
 obtain ⟨b1, b2⟩ := z
 simp only at *
 have h0 : (b1 - a1) * (y - k * a2) - (b2 - a2) * (x - k * a1) = 0 := by
  have e : (a1 - b1) * (y - k * b2) - (a2 - b2) * (x - k * b1) = -((b1 - a1) * (y - k * a2) - (b2 - a2) * (x - k * a1)) := by grind
  omega
 have hdd : 0 < (b1 - a1) * (b1 - a1) + (b2 - a2) * (b2 - a2) := by
  by_cases e : b1 - a1 = 0
  ·have := sq_pos' (x := b2 - a2) (by omega); have := sq0 (b1 - a1); omega
  ·have := sq_pos' e; have := sq0 (b2 - a2); omega
 have ex : ((b1 - a1) * (b1 - a1) + (b2 - a2) * (b2 - a2)) * (x - k * a1) = ((b1 - a1) * (x - k * a1) + (b2 - a2) * (y - k * a2)) * (b1 - a1) - (b2 - a2) * ((b1 - a1) * (y - k * a2) - (b2 - a2) * (x - k * a1)) := by grind
 have ey : ((b1 - a1) * (b1 - a1) + (b2 - a2) * (b2 - a2)) * (y - k * a2) = ((b1 - a1) * (x - k * a1) + (b2 - a2) * (y - k * a2)) * (b2 - a2) + (b1 - a1) * ((b1 - a1) * (y - k * a2) - (b2 - a2) * (x - k * a1)) := by grind
 rw [h0, Int.mul_zero] at ex ey
 have t1 : 0 <= (b1 - a1) * (x - k * a1) + (b2 - a2) * (y - k * a2) := by
  have e : (b1 - a1) * x + (b2 - a2) * y + -((b1 - a1) * a1 + (b2 - a2) * a2) * k = (b1 - a1) * (x - k * a1) + (b2 - a2) * (y - k * a2) := by grind
  omega
 have t2 : (b1 - a1) * (x - k * a1) + (b2 - a2) * (y - k * a2) <= k * ((b1 - a1) * (b1 - a1) + (b2 - a2) * (b2 - a2)) := by
  have e : -(b1 - a1) * x + -(b2 - a2) * y + ((b1 - a1) * b1 + (b2 - a2) * b2) * k = k * ((b1 - a1) * (b1 - a1) + (b2 - a2) * (b2 - a2)) - ((b1 - a1) * (x - k * a1) + (b2 - a2) * (y - k * a2)) := by grind
  omega
 generalize hT : (b1 - a1) * (x - k * a1) + (b2 - a2) * (y - k * a2) = T at *
 generalize hd' : (b1 - a1) * (b1 - a1) + (b2 - a2) * (b2 - a2) = dd at *
 refine ⟨T, k * dd, t1, t2, Int.mul_pos hk hdd, ?_⟩
 have f1 : k * dd * mx - 1 * ((k * dd - T) * a1 + T * b1) = dd * (k * mx - x) := by
  have : dd * (k * mx - x) = k * dd * mx - (dd * (x - k * a1) + k * dd * a1) := by grind
  rw [this, ex]; grind
 have f2 : k * dd * my - 1 * ((k * dd - T) * a2 + T * b2) = dd * (k * my - y) := by
  have : dd * (k * my - y) = k * dd * my - (dd * (y - k * a2) + k * dd * a2) := by grind
  rw [this, ey]; grind
 rw [f1, f2, q2_mul]
 have := iml hq (sq0 dd)
 have e : k * dd * 1 * r * (k * dd * 1 * r) = dd * dd * (k * r * (k * r)) := by grind
 omega
def hullL : List P2 -> List P2
 | [] => []
 | [a] => [a]
 | a :: b :: l => (chainS [] (a :: b :: l)).tail.reverse ++ (chainS [] (a :: b :: l).reverse).tail.reverse
def pAt (l : List P2) (i : Nat) : P2 := l.getD i (0, 0)
def nrp (a b m : P2) (r : Int) : Bool := nr a.1 a.2 b.1 b.2 m.1 m.2 r
def TP (H : List P2) (m : P2) (r : Int) : Prop := (∃ i, i < H.length /\ nrp (pAt H i) (pAt H ((i + 1) % H.length)) m r = true) ∨ (2 < H.length /\ ∀ i, i < H.length -> 0 < sdp (pAt H i) (pAt H ((i + 1) % H.length)) m)
def Wn (m a b c : P2) : Prop := sdp a b c ≠ 0 /\ ((0 <= sdp a b m /\ 0 <= sdp b c m /\ 0 <= sdp c a m) ∨ (sdp a b m <= 0 /\ sdp b c m <= 0 /\ sdp c a m <= 0))
def RefT (D : P2 -> Prop) (m : P2) (r : Int) : Prop := (∃ a b, D a /\ D b /\ nrp a b m r = true) ∨ ∃ a b c, D a /\ D b /\ D c /\ Wn m a b c
theorem adj_ix : ∀ {st : List P2} {x y : P2}, Adj st x y ↔ ∃ i, st.reverse[i]? = some x /\ st.reverse[i + 1]? = some y
 | [], x, y => by simp [Adj]
 | [s], x, y => by
   simp only [Adj, false_iff]
   rintro ⟨i, h1, h2⟩
   simp at h2
 | b :: a :: l, x, y => by
   have ih := adj_ix (st := a :: l) (x := x) (y := y)
   have hl : (a :: l).reverse.length = l.length + 1 := by simp
   have ha : (a :: l).reverse[l.length]? = some a := by
    rw [List.reverse_cons, List.getElem?_append_right (by simp)]; simp
   simp only [Adj, ih]
   rw [List.reverse_cons (a := b)]
   constructor
   ·rintro (⟨rfl, rfl⟩ | ⟨i, h1, h2⟩)
    ·refine ⟨l.length, ?_, ?_⟩
     ·rw [List.getElem?_append_left (by omega)]; exact ha
     ·rw [List.getElem?_append_right (by omega), hl]; simp
    ·have k : i + 1 < (a :: l).reverse.length := by
      apply Classical.byContradiction; intro hn
      rw [List.getElem?_eq_none (by omega)] at h2; cases h2
     exact ⟨i, by rw [List.getElem?_append_left (by omega)]; exact h1, by rw [List.getElem?_append_left k]; exact h2⟩
   ·rintro ⟨i, h1, h2⟩
    by_cases k : i + 1 < (a :: l).reverse.length
    ·rw [List.getElem?_append_left k] at h2
     rw [List.getElem?_append_left (by omega)] at h1
     exact .inr ⟨i, h1, h2⟩
    ·rw [List.getElem?_append_right (by omega), hl] at h2
     have e : i = l.length := by
      apply Classical.byContradiction; intro hn
      rw [List.getElem?_eq_none (by simp; omega)] at h2; cases h2
     subst e
     rw [List.getElem?_append_left (by omega), ha] at h1
     rw [Nat.sub_self] at h2
     simp only [List.getElem?_cons_zero, Option.some.injEq] at h1 h2
     exact .inl ⟨h1.symm, h2.symm⟩
theorem bot_ix : ∀ {st : List P2}, st ≠ [] -> st.reverse[0]? = some (botS st)
 | [s], _ => rfl
 | b :: a :: l, _ => by
   rw [List.reverse_cons (a := b), List.getElem?_append_left (by simp)]
   exact bot_ix (st := a :: l) (by simp)
section
variable {D : P2 -> Prop} {A B : List P2} {z m : P2}
theorem ix_aux {rA rB : List P2} {z m : P2} (bA : rA.reverse[0]? = some m) (bB : rB.reverse[0]? = some z) (i : Nat) (hi : i < rA.length + rB.length) :
 (rA.reverse ++ rB.reverse)[i]? = (if i < rA.length then (rA.reverse ++ [z])[i]? else (rB.reverse ++ [m])[i - rA.length]?) /\ (rA.reverse ++ rB.reverse)[(i + 1) % (rA.length + rB.length)]? = (if i < rA.length then (rA.reverse ++ [z])[i + 1]? else (rB.reverse ++ [m])[i - rA.length + 1]?) := by
 have nA : rA.reverse.length = rA.length := List.length_reverse
 have nB : rB.reverse.length = rB.length := List.length_reverse
 by_cases h1 : i < rA.length
 ·rw [if_pos h1, if_pos h1, Nat.mod_eq_of_lt (by
   have : 0 < rB.reverse.length := by
    apply Classical.byContradiction; intro hn
    rw [List.getElem?_eq_none (by omega)] at bB; cases bB
   omega)]
  refine ⟨by rw [List.getElem?_append_left (by omega), List.getElem?_append_left (by omega)], ?_⟩
  by_cases h2 : i + 1 < rA.length
  ·rw [List.getElem?_append_left (by omega), List.getElem?_append_left (by omega)]
  ·have e : i + 1 = rA.length := by omega
   rw [e, List.getElem?_append_right (by omega), List.getElem?_append_right (by omega), nA, Nat.sub_self, bB]; rfl
 ·rw [if_neg h1, if_neg h1]
  refine ⟨by rw [List.getElem?_append_right (by omega), List.getElem?_append_left (l₁ := rB.reverse) (by omega), nA], ?_⟩
  by_cases h2 : i - rA.length + 1 < rB.length
  ·rw [Nat.mod_eq_of_lt (by omega), List.getElem?_append_right (by omega), List.getElem?_append_left (l₁ := rB.reverse) (by omega), nA]
   congr 1; omega
  ·have e : i + 1 = rA.length + rB.length := by omega
   have e2 : i - rA.length + 1 = rB.length := by omega
   rw [e, Nat.mod_self, e2, List.getElem?_append_left (by
    apply Classical.byContradiction; intro hn
    rw [List.getElem?_eq_none (by omega)] at bA; cases bA), List.getElem?_append_right (by omega), nB, Nat.sub_self, bA]; rfl
theorem Hull.ix (h : Hull D A B z m) (i : Nat) (hi : i < (A.tail.reverse ++ B.tail.reverse).length) :
 (A.tail.reverse ++ B.tail.reverse)[i]? = (if i < A.tail.length then A.reverse[i]? else B.reverse[i - A.tail.length]?) /\ (A.tail.reverse ++ B.tail.reverse)[(i + 1) % (A.tail.reverse ++ B.tail.reverse).length]? = (if i < A.tail.length then A.reverse[i + 1]? else B.reverse[i - A.tail.length + 1]?) := by
 obtain ⟨rA, eA⟩ := h.tA
 obtain ⟨rB, eB⟩ := h.tB
 have la := h.lenA
 have lb := h.lenB
 have bA := bot_ix (st := A) (by rw [eA]; simp)
 have bB := bot_ix (st := B) (by rw [eB]; simp)
 rw [h.bA] at bA
 rw [h.bB] at bB
 rw [eA] at la bA hi ⊢
 rw [eB] at lb bB hi ⊢
 simp only [List.length_cons] at la lb
 rw [List.reverse_cons, List.getElem?_append_left (by simp; omega)] at bA bB
 have hi' : i < rA.length + rB.length := by
  have : (rA.reverse ++ rB.reverse).length = rA.length + rB.length := by simp
  have h2 : i < (rA.reverse ++ rB.reverse).length := hi
  omega
 have k := ix_aux bA bB i hi'
 have eL : (rA.reverse ++ rB.reverse).length = rA.length + rB.length := by simp
 rw [← eL] at k
 rw [← List.reverse_cons, ← List.reverse_cons] at k
 exact k
theorem pAt_some {l : List P2} {i : Nat} (h : i < l.length) : l[i]? = some (pAt l i) := by
 unfold pAt; rw [List.getElem?_eq_getElem h]; simp [List.getD, List.getElem?_eq_getElem h]
theorem Hull.cyc (h : Hull D A B z m) {x y : P2} : (∃ i, i < (A.tail.reverse ++ B.tail.reverse).length /\ pAt (A.tail.reverse ++ B.tail.reverse) i = x /\ pAt (A.tail.reverse ++ B.tail.reverse) ((i + 1) % (A.tail.reverse ++ B.tail.reverse).length) = y) ↔ Ed A B x y := by
 unfold Ed
 rw [adj_ix, adj_ix]
 have nA : A.reverse.length = A.tail.length + 1 := by have := h.lenA; simp; omega
 have nB : B.reverse.length = B.tail.length + 1 := by have := h.lenB; simp; omega
 have nH : (A.tail.reverse ++ B.tail.reverse).length = A.tail.length + B.tail.length := by simp
 have gt : ∀ {l : List P2} {i : Nat} {x : P2}, l[i]? = some x -> i < l.length := fun {l i x} hx => by
  apply Classical.byContradiction; intro hn
  rw [List.getElem?_eq_none (by omega)] at hx; cases hx
 constructor
 ·rintro ⟨i, hi, rfl, rfl⟩
  have k := h.ix i hi
  rw [pAt_some hi, pAt_some (Nat.mod_lt _ (by omega))] at k
  by_cases hl : i < A.tail.length
  ·rw [if_pos hl, if_pos hl] at k
   exact .inl ⟨i, k.1.symm, k.2.symm⟩
  ·rw [if_neg hl, if_neg hl] at k
   exact .inr ⟨_, k.1.symm, k.2.symm⟩
 ·rintro (⟨i, h1, h2⟩ | ⟨i, h1, h2⟩)
  ·have g := gt h2
   have hi : i < (A.tail.reverse ++ B.tail.reverse).length := by omega
   have k := h.ix i hi
   rw [if_pos (by omega), if_pos (by omega), h1, h2, pAt_some hi, pAt_some (Nat.mod_lt _ (by omega))] at k
   simp only [Option.some.injEq] at k
   exact ⟨i, hi, k.1, k.2⟩
  ·have g := gt h2
   have hi : i + A.tail.length < (A.tail.reverse ++ B.tail.reverse).length := by omega
   have k := h.ix (i + A.tail.length) hi
   rw [if_neg (by omega), if_neg (by omega), Nat.add_sub_cancel, h1, h2, pAt_some hi, pAt_some (Nat.mod_lt _ (by omega))] at k
   simp only [Option.some.injEq] at k
   exact ⟨_, hi, k.1, k.2⟩
end
theorem fan {v : Nat -> P2} {n : Nat} {m : P2} (h3 : 2 < n) (h : ∀ i, i < n -> 0 < sdp (v i) (v ((i + 1) % n)) m) : ∃ k, k + 1 < n /\ Wn m (v 0) (v k) (v (k + 1)) := by
 have key : ∀ k, 1 <= k -> k < n -> (∃ k, k + 1 < n /\ 0 < sdp (v 0) (v k) m /\ sdp (v 0) (v (k + 1)) m <= 0) ∨ 0 < sdp (v 0) (v k) m := by
  intro k
  induction k with
  | zero => intro h; omega
  | succ k ih =>
    intro _ hk
    by_cases e : k = 0
    ·subst e
     have := h 0 (by omega)
     rw [Nat.mod_eq_of_lt (by omega)] at this
     exact .inr this
    ·rcases ih (by omega) (by omega) with k1 | k1
     ·exact .inl k1
     ·by_cases h0 : sdp (v 0) (v (k + 1)) m <= 0
      ·exact .inl ⟨k, hk, k1, h0⟩
      ·exact .inr (by omega)
 have last := h (n - 1) (by omega)
 rw [Nat.sub_add_cancel (by omega), Nat.mod_self, sdp_neg] at last
 rcases key (n - 1) (by omega) (by omega) with ⟨k, hk, k1, k2⟩ | k1
 ·refine ⟨k, hk, ?_⟩
  have k3 := h k (by omega)
  rw [Nat.mod_eq_of_lt hk] at k3
  have e : sdp (v 0) (v k) (v (k + 1)) = sdp (v 0) (v k) m + sdp (v k) (v (k + 1)) m - sdp (v 0) (v (k + 1)) m := by unfold sdp sd; grind
  refine ⟨by omega, .inl ⟨by omega, by omega, ?_⟩⟩
  rw [sdp_neg]; omega
 ·omega
theorem nrp_iff {a b m : P2} {r : Int} (hr : 0 <= r) : nrp a b m r = true ↔ Nq a.1 a.2 b.1 b.2 m.1 m.2 1 r := nr_iff hr
section
variable {D : P2 -> Prop} {m : P2} {r : Int}
theorem ref_cv (hr : 0 <= r) (h : RefT D m r) : CvN D m.1 m.2 r := by
 rcases h with ⟨a, b, ha, hb, h⟩ | ⟨a, b, c, ha, hb, hc, h1, h2⟩
 ·obtain ⟨n, k, h1, h2, h3, h4⟩ := (nrp_iff hr).1 h
  rw [Int.mul_one] at h4
  refine ⟨(k - n) * a.1 + n * b.1, (k - n) * a.2 + n * b.2, k, h3, fun A B C hq => ?_, ?_⟩
  ·have k1 := imn (show 0 <= k - n by omega) (hq a ha)
   have k2 := imn h1 (hq b hb)
   have e : A * ((k - n) * a.1 + n * b.1) + B * ((k - n) * a.2 + n * b.2) + C * k = (k - n) * (A * a.1 + B * a.2 + C) + n * (A * b.1 + B * b.2 + C) := by grind
   omega
  ·rw [Int.one_mul, Int.one_mul] at h4
   exact h4
 ·refine ⟨m.1, m.2, 1, by omega, fun A B C hq => ?_, ?_⟩
  ·have fa := hq a ha
   have fb := hq b hb
   have fc := hq c hc
   have e : sdp a b c * (A * m.1 + B * m.2 + C * 1) = sdp b c m * (A * a.1 + B * a.2 + C) + sdp c a m * (A * b.1 + B * b.2 + C) + sdp a b m * (A * c.1 + B * c.2 + C) := by unfold sdp sd; grind
   have es : sdp a b c = sdp b c m + sdp c a m + sdp a b m := by unfold sdp sd; grind
   rcases h2 with ⟨g1, g2, g3⟩ | ⟨g1, g2, g3⟩
   ·have k1 := imn g2 fa
    have k2 := imn g3 fb
    have k3 := imn g1 fc
    exact cancel (k := sdp a b c) (by omega) (by rw [Int.mul_zero]; omega)
   ·have k1 := imn (show 0 <= -sdp b c m by omega) fa
    have k2 := imn (show 0 <= -sdp c a m by omega) fb
    have k3 := imn (show 0 <= -sdp a b m by omega) fc
    rw [Int.neg_mul] at k1 k2 k3
    exact cancel (k := -sdp a b c) (by omega) (by rw [Int.mul_zero, Int.neg_mul]; omega)
  ·rw [Int.one_mul, Int.one_mul, Int.sub_self, Int.sub_self, Int.one_mul]
   have := sq0 r
   unfold q2; omega
theorem nq_pt {a : P2} (h : q2 (m.1 - a.1) (m.2 - a.2) <= r * r) (b : P2) : Nq a.1 a.2 b.1 b.2 m.1 m.2 1 r := by
 refine ⟨0, 1, by omega, by omega, by omega, ?_⟩
 rw [show 1 * m.1 - 1 * ((1 - 0) * a.1 + 0 * b.1) = m.1 - a.1 by omega, show 1 * m.2 - 1 * ((1 - 0) * a.2 + 0 * b.2) = m.2 - a.2 by omega, show 1 * 1 * r = r by omega]
 exact h
end
theorem tp_ref {c : List P2} (hs : c.Pairwise ltP) {m : P2} {r : Int} (h : TP (hullL c) m r) : RefT (fun q => q ∈ c) m r := by
 match c, hs with
 | [], _ =>
   rcases h with ⟨i, hi, _⟩ | ⟨h, _⟩
   ·exact absurd hi (by simp [hullL])
   ·exact absurd h (by simp [hullL])
 | [a], _ =>
   rcases h with ⟨i, hi, h⟩ | ⟨h, _⟩
   ·simp only [hullL, List.length_singleton] at hi h
    have e : i = 0 := by omega
    subst e
    exact .inl ⟨a, a, by simp, by simp, h⟩
   ·exact absurd h (by simp [hullL])
 | a :: b :: l, hs =>
   obtain ⟨z, H⟩ := hull_of hs (by simp)
   unfold hullL at h
   rcases h with ⟨i, hi, h⟩ | ⟨h3, h⟩
   ·have k := H.e1 (H.cyc.1 ⟨i, hi, rfl, rfl⟩)
    exact .inl ⟨_, _, k.2.1, k.2.2.1, h⟩
   ·have h3' : 2 < ((chainS [] (a :: b :: l)).tail.reverse ++ (chainS [] (a :: b :: l).reverse).tail.reverse).length := h3
    obtain ⟨k, hk, hw⟩ := fan (n := ((chainS [] (a :: b :: l)).tail.reverse ++ (chainS [] (a :: b :: l).reverse).tail.reverse).length) h3' h
    have mem : ∀ i, i < ((chainS [] (a :: b :: l)).tail.reverse ++ (chainS [] (a :: b :: l).reverse).tail.reverse).length -> pAt ((chainS [] (a :: b :: l)).tail.reverse ++ (chainS [] (a :: b :: l).reverse).tail.reverse) i ∈ a :: b :: l := fun i hi => (H.e1 (H.cyc.1 ⟨i, hi, rfl, rfl⟩)).2.1
    exact .inr ⟨_, _, _, mem 0 (by omega), mem k (by omega), mem (k + 1) hk, hw⟩
theorem cv_tp {c : List P2} (hs : c.Pairwise ltP) (h0 : c ≠ []) {m : P2} {r : Int} (hr : 0 <= r) (h : CvN (fun q => q ∈ c) m.1 m.2 r) : TP (hullL c) m r := by
 match c, hs, h0 with
 | [a], _, _ =>
   obtain ⟨x, y, k, hk, hI, hq⟩ := h
   have i1 := hI 1 0 (-a.1) fun q hq => by simp only [List.mem_singleton] at hq; subst hq; omega
   have i2 := hI (-1) 0 a.1 fun q hq => by simp only [List.mem_singleton] at hq; subst hq; omega
   have i3 := hI 0 1 (-a.2) fun q hq => by simp only [List.mem_singleton] at hq; subst hq; omega
   have i4 := hI 0 (-1) a.2 fun q hq => by simp only [List.mem_singleton] at hq; subst hq; omega
   rw [Int.neg_mul] at i1 i3
   have ex : x = k * a.1 := by rw [Int.mul_comm]; omega
   have ey : y = k * a.2 := by rw [Int.mul_comm]; omega
   refine .inl ⟨0, by simp [hullL], (nrp_iff hr).2 (nq_pt ?_ _)⟩
   show q2 (m.1 - a.1) (m.2 - a.2) <= r * r
   rw [ex, ey, ← Int.mul_sub, ← Int.mul_sub, q2_mul] at hq
   refine cancel2 hk ?_
   have e : k * r * (k * r) = k * k * (r * r) := by grind
   omega
 | a :: b :: l, hs, _ =>
   obtain ⟨z, H⟩ := hull_of hs (by simp)
   unfold hullL
   have la := H.lenA
   have lb := H.lenB
   by_cases hf : (chainS [] (a :: b :: l)).length < 3 /\ (chainS [] (a :: b :: l).reverse).length < 3
   ·obtain ⟨eA, eB, hflat⟩ := H.flat hf.1 hf.2
    have k := flat_near H.zm H.hz H.hm hflat hr h
    have e : Ed (chainS [] (a :: b :: l)) (chainS [] (a :: b :: l).reverse) a z := .inl (by rw [eA]; exact adj_top)
    obtain ⟨i, hi, h1, h2⟩ := H.cyc.2 e
    exact .inl ⟨i, hi, by rw [h1, h2]; exact (nrp_iff hr).2 k⟩
   ·have hn : NotFlat (fun q => q ∈ a :: b :: l) := H.bend (by omega)
    by_cases hx : ∃ i, i < ((chainS [] (a :: b :: l)).tail.reverse ++ (chainS [] (a :: b :: l).reverse).tail.reverse).length /\ sdp (pAt ((chainS [] (a :: b :: l)).tail.reverse ++ (chainS [] (a :: b :: l).reverse).tail.reverse) i) (pAt ((chainS [] (a :: b :: l)).tail.reverse ++ (chainS [] (a :: b :: l).reverse).tail.reverse) ((i + 1) % ((chainS [] (a :: b :: l)).tail.reverse ++ (chainS [] (a :: b :: l).reverse).tail.reverse).length)) m <= 0
    ·obtain ⟨i, hi, hx⟩ := hx
     obtain ⟨p, q, he, hk⟩ := H.near hn hr h (e0 := (_, _)) (H.cyc.1 ⟨i, hi, rfl, rfl⟩) hx
     obtain ⟨j, hj, h1, h2⟩ := H.cyc.2 he
     exact .inl ⟨j, hj, by rw [h1, h2]; exact (nrp_iff hr).2 hk⟩
    ·refine .inr ⟨by simp only [List.length_append, List.length_reverse, List.length_tail]; omega, fun i hi => ?_⟩
     apply Classical.byContradiction; intro hn
     exact hx ⟨i, hi, Int.not_lt.1 hn⟩
theorem tp_iff {c : List P2} (hs : c.Pairwise ltP) (h0 : c ≠ []) {m : P2} {r : Int} (hr : 0 <= r) : TP (hullL c) m r ↔ RefT (fun q => q ∈ c) m r := ⟨tp_ref hs, fun h => cv_tp hs h0 hr (ref_cv hr h)⟩
end Go.Dx
namespace Go.Dx
open Go.IntKind (i64 u64 u8)
open Go.Sx
abbrev ty4 : List Ty := tp4
def v4 (a b c d : Int) : List V := [V.int .i64 a, V.int .i64 b, V.int .i64 c, V.int .i64 d]
def LR (g : Int -> Int -> List V) (n : Nat) (f : Nat -> List V) (acc : List (Int × Int)) : Prop := n = acc.length /\ ∀ k p, acc[k]? = some p -> views ty4 (f k) = g p.1 p.2
theorem LR.nil (g : Int -> Int -> List V) (f : Nat -> List V) : LR g 0 f [] := ⟨rfl, fun k p h => by simp at h⟩
theorem LR.view {g : Int -> Int -> List V} {n : Nat} {f : Nat -> List V} {acc : List (Int × Int)} (h : LR g n f acc) : LR g n (elV ty4 f) acc := ⟨h.1, fun k p hk => by show views ty4 (views ty4 (f k)) = _; rw [views_idem]; exact h.2 k p hk⟩
end Go.Dx
namespace Go.Dx
open Go.Sx
abbrev ty2 : List Ty := [Ty.int IntKind.i64, Ty.int IntKind.i64]
def pq (f : Nat -> List V) (i : Nat) : P2 := (jv0 (f i), jv1 (f i))
def pv2 (p : P2) : List V := [V.int .i64 p.1, V.int .i64 p.2]
theorem pq_el (f : Nat -> List V) (i : Nat) : pq (elV ty2 f) i = pq f i := rfl
def ptL (n : Nat) (f : Nat -> List V) : List P2 := (List.range n).map (pq f)
theorem ptL_len (n : Nat) (f : Nat -> List V) : (ptL n f).length = n := by simp [ptL]
theorem ptL_at {n : Nat} {f : Nat -> List V} {k : Nat} (h : k < n) : (ptL n f)[k]? = some (pq f k) := by simp [ptL, h]
theorem ptL_el (n : Nat) (f : Nat -> List V) : ptL n (elV ty2 f) = ptL n f := rfl
theorem ptL_mem {n : Nat} {f : Nat -> List V} {q : P2} : q ∈ ptL n f ↔ ∃ k, k < n /\ pq f k = q := by simp [ptL]
theorem ptL_snoc (n : Nat) (f : Nat -> List V) (p : P2) : ptL (n + 1) (joinF n (elV ty2 f) fun _ => pv2 p) = ptL n f ++ [p] := by
 unfold ptL
 rw [List.range_succ, List.map_append]
 congr 1
 ·refine List.map_congr_left fun k hk => ?_
  have hk := List.mem_range.1 hk
  unfold pq joinF
  rw [show Nat.blt k n = true from Nat.ble_eq_true_of_le hk]; rfl
 ·simp only [List.map_cons, List.map_nil, List.cons.injEq, and_true]
  unfold pq joinF
  have : Nat.blt n n = false := by
   cases hb : Nat.blt n n with
   | false => rfl
   | true => have := Nat.le_of_ble_eq_true hb; omega
  rw [this]; rfl
theorem ptL_take {n m : Nat} {f : Nat -> List V} (h : m <= n) : ptL m f = (ptL n f).take m := by
 unfold ptL
 rw [← List.map_take, List.take_range, Nat.min_eq_left h]
theorem pq_set {f : Nat -> List V} {j k : Nat} {l : List V} : pq (fun i => bif Nat.beq i j then l else f i) k = if k = j then (jv0 l, jv1 l) else pq f k := by
 unfold pq
 dsimp only
 by_cases h : k = j
 ·subst h; rw [if_pos rfl, Nat.beq_refl]; rfl
 ·rw [if_neg h]
  have : Nat.beq k j = false := by
   cases hb : Nat.beq k j with
   | false => rfl
   | true => exact (h (Nat.eq_of_beq_eq_true hb)).elim
  rw [this]; rfl
theorem leP_trans {a b c : P2} (h1 : leP a b) (h2 : leP b c) : leP a c := by unfold leP at *; omega
theorem not_lt_le {a b : P2} (h : ¬ ltP a b) : leP b a := by unfold ltP leP at *; omega
theorem le_ne_lt {a b : P2} (h : leP a b) (hn : ¬ (b.1 = a.1 /\ b.2 = a.2)) : ltP a b := by unfold ltP leP at *; omega
def swF (f : Nat -> List V) (i j : Nat) : Nat -> List V := fun i' => bif Nat.beq i' j then pv2 (pq f i) else bif Nat.beq i' i then pv2 (pq f j) else elV ty2 f i'
theorem pq_sw (f : Nat -> List V) (i j k : Nat) : pq (swF f i j) k = if k = j then pq f i else if k = i then pq f j else pq f k := by
 unfold swF
 rw [pq_set]
 by_cases h : k = j
 ·rw [if_pos h, if_pos h]; rfl
 ·rw [if_neg h, if_neg h]
  have := pq_set (f := elV ty2 f) (j := i) (k := k) (l := pv2 (pq f j))
  rw [this]; rfl
section
variable {N : Nat} {D : P2 -> Prop}
def MemN (N : Nat) (D : P2 -> Prop) (f : Nat -> List V) : Prop := ∀ q, D q ↔ ∃ k, k < N /\ pq f k = q
def Srt (i : Nat) (f : Nat -> List V) : Prop := ∀ a b, a < b -> b < i -> leP (pq f a) (pq f b)
def SSr (i : Nat) (f : Nat -> List V) : Prop := ∀ a b, a < b -> b < i -> ltP (pq f a) (pq f b)
theorem mem_sw {f : Nat -> List V} {i j : Nat} (hi : i < N) (hj : j < N) (h : MemN N D f) : MemN N D (swF f i j) := fun q => by
 rw [h q]
 constructor
 ·rintro ⟨k, hk, e⟩
  by_cases h1 : k = i
  ·exact ⟨j, hj, by rw [pq_sw, if_pos rfl, ← h1]; exact e⟩
  ·by_cases h2 : k = j
   ·refine ⟨i, hi, ?_⟩
    rw [pq_sw]
    by_cases h3 : i = j
    ·rw [if_pos h3]; rw [h3, ← h2]; exact e
    ·rw [if_neg h3, if_pos rfl, ← h2]; exact e
   ·exact ⟨k, hk, by rw [pq_sw, if_neg h2, if_neg h1]; exact e⟩
 ·rintro ⟨k, hk, e⟩
  rw [pq_sw] at e
  by_cases h2 : k = j
  ·rw [if_pos h2] at e; exact ⟨i, hi, e⟩
  ·rw [if_neg h2] at e
   by_cases h1 : k = i
   ·rw [if_pos h1] at e; exact ⟨j, hj, e⟩
   ·rw [if_neg h1] at e; exact ⟨k, hk, e⟩
theorem sort_ind {P0 : Nat -> (Nat -> List V) -> Prop} {P1 : Nat -> Nat -> (Nat -> List V) -> Prop}
 (s0 : ∀ i f, 1 <= i -> i < N -> P1 i i (elV ty2 f) -> P0 i f)
 (s0e : ∀ f, Srt N f -> MemN N D f -> P0 N f)
 (s1a : ∀ j i f, 0 < j -> j <= i -> i < N -> MemN N D f -> ltP (pq f j) (pq f (j - 1)) -> P1 (j - 1) i (swF f j (j - 1)) -> P1 j i f)
 (s1b : ∀ j i f, j <= i -> i < N -> MemN N D f -> (0 < j -> ¬ ltP (pq f j) (pq f (j - 1))) -> P0 (i + 1) (elV ty2 f) -> P1 j i f) :
 ∀ m i f, i + m = N -> 1 <= i -> Srt i f -> MemN N D f -> P0 i f
 | 0, i, f, h1, _, h2, h3 => by
   rw [show i = N by omega] at h2 ⊢; exact s0e f h2 h3
 | m + 1, i, f, h1, hi, h2, h3 => by
   refine s0 i f hi (by omega) ?_
   have key : ∀ j f, j <= i -> (∀ a b, a < b -> b <= i -> b ≠ j -> leP (pq f a) (pq f b)) -> MemN N D f -> P1 j i f := by
    intro j
    induction j with
    | zero =>
      intro f hj hins hm
      refine s1b 0 i f hj (by omega) hm (fun h => by omega) (sort_ind s0 s0e s1a s1b m (i + 1) _ (by omega) (by omega) (fun a b hab hb => ?_) hm)
      exact hins a b hab (by omega) (by omega)
    | succ j ih =>
      intro f hj hins hm
      by_cases hlt : ltP (pq f (j + 1)) (pq f j)
      ·refine s1a (j + 1) i f (by omega) hj (by omega) hm hlt (ih _ (by omega) (fun a b hab hb hbj => ?_) (mem_sw (by omega) (by omega) hm))
       simp only [Nat.add_sub_cancel] at *
       rw [pq_sw, pq_sw]
       by_cases b1 : b = j + 1
       ·subst b1
        rw [if_neg (by omega : ¬ j + 1 = j), if_pos rfl]
        by_cases a1 : a = j
        ·rw [if_pos a1]; exact leP_of hlt
        ·rw [if_neg a1, if_neg (by omega)]
         exact hins a j (by omega) (by omega) (by omega)
       ·rw [if_neg hbj, if_neg b1]
        by_cases a1 : a = j
        ·rw [if_pos a1]; exact hins (j + 1) b (by omega) hb (by omega)
        ·rw [if_neg a1]
         by_cases a2 : a = j + 1
         ·rw [if_pos a2]; exact hins j b (by omega) hb (by omega)
         ·rw [if_neg a2]; exact hins a b hab hb (by omega)
      ·refine s1b (j + 1) i f hj (by omega) hm (fun _ => hlt) (sort_ind s0 s0e s1a s1b m (i + 1) _ (by omega) (by omega) (fun a b hab hb => ?_) hm)
       rw [pq_el, pq_el]
       by_cases b1 : b = j + 1
       ·subst b1
        have k := not_lt_le hlt
        by_cases a1 : a = j
        ·subst a1; exact k
        ·exact leP_trans (hins a j (by omega) (by omega) (by omega)) k
       ·exact hins a b hab (by omega) b1
   exact key i _ (Nat.le_refl _) (fun a b hab hb hbi => h2 a b hab (by omega)) h3
theorem comp_ind {P2' : Nat -> (Nat -> List V) -> Prop} {P3 : Nat -> Nat -> Nat -> (Nat -> List V) -> Prop}
 (ce : ∀ f, SSr N f -> MemN N D f -> P2' N f)
 (cn : ∀ i f, 1 <= i -> i < N -> ¬ ((pq f i).1 = (pq f (i - 1)).1 /\ (pq f i).2 = (pq f (i - 1)).2) -> P2' (i + 1) (elV ty2 f) -> P2' i f)
 (cd : ∀ i f, 1 <= i -> i < N -> ((pq f i).1 = (pq f (i - 1)).1 /\ (pq f i).2 = (pq f (i - 1)).2) -> P3 1 i i (elV ty2 f) -> P2' i f)
 (ds : ∀ k off m f, 1 <= k -> off + k < N -> 1 <= m -> m <= off + k - 1 -> ¬ ((pq f (off + k)).1 = (pq f (off + (k - 1))).1 /\ (pq f (off + k)).2 = (pq f (off + (k - 1))).2) ->
   P3 (k + 1) off (m + 1) (fun i' => bif Nat.beq i' m then pv2 (pq f (off + k)) else elV ty2 f i') -> P3 k off m f)
 (dn : ∀ k off m f, 1 <= k -> off + k < N -> 1 <= m -> m <= off + k - 1 -> ((pq f (off + k)).1 = (pq f (off + (k - 1))).1 /\ (pq f (off + k)).2 = (pq f (off + (k - 1))).2) -> P3 (k + 1) off m (elV ty2 f) -> P3 k off m f)
 (de : ∀ off m f, off < N -> 1 <= m -> m < N -> SSr m f -> MemN m D f -> P3 (N - off) off m f) :
 ∀ m i f, i + m = N -> 1 <= i -> Srt N f -> SSr i f -> MemN N D f -> P2' i f
 | 0, i, f, h1, _, _, h2, h3 => by
   rw [show i = N by omega] at h2 ⊢; exact ce f h2 h3
 | m + 1, i, f, h1, hi, hS, h2, h3 => by
   by_cases he : (pq f i).1 = (pq f (i - 1)).1 /\ (pq f i).2 = (pq f (i - 1)).2
   ·refine cd i f hi (by omega) he ?_
    have key : ∀ r k m g, k + r = N - i -> 1 <= k -> i <= m -> m <= i + k - 1 -> (∀ t, i + k - 1 <= t -> t < N -> pq g t = pq f t) -> SSr m g -> (∀ q, (∃ a, a < m /\ pq g a = q) ↔ ∃ a, a < i + k /\ pq f a = q) -> pq g (m - 1) = pq f (i + k - 1) -> P3 k i m g := by
     intro r
     induction r with
     | zero =>
       intro k m g hk hk1 him hm hu hss hmem hl
       rw [show k = N - i by omega] at *
       refine de i m g (by omega) (by omega) (by omega) hss fun q => ?_
       rw [h3 q, hmem q, show i + (N - i) = N by omega]
     | succ r ih =>
       intro k m g hk hk1 him hm hu hss hmem hl
       have u1 := hu (i + k) (by omega) (by omega)
       have u2 := hu (i + (k - 1)) (by omega) (by omega)
       rw [show i + k - 1 = i + (k - 1) by omega] at hl
       by_cases hd : (pq g (i + k)).1 = (pq g (i + (k - 1))).1 /\ (pq g (i + k)).2 = (pq g (i + (k - 1))).2
       ·refine dn k i m g hk1 (by omega) (by omega) hm hd (ih (k + 1) m _ (by omega) (by omega) him (by omega) (fun t ht => hu t (by omega)) hss (fun q => ?_) ?_)
        ·have := hmem q
         simp only [pq_el]
         rw [this]
         constructor
         ·rintro ⟨a, ha, e⟩; exact ⟨a, by omega, e⟩
         ·rintro ⟨a, ha, e⟩
          by_cases ea : a = i + k
          ·subst ea
           refine ⟨i + (k - 1), by omega, ?_⟩
           rw [← e, ← u1, ← u2]; exact (Prod.ext hd.1 hd.2).symm
          ·exact ⟨a, by omega, e⟩
        ·rw [pq_el, hl, show i + (k + 1) - 1 = i + k by omega, ← u1, ← u2]; exact (Prod.ext hd.1 hd.2).symm
       ·have hlt : ltP (pq g (m - 1)) (pq g (i + k)) := by
         refine le_ne_lt ?_ ?_
         ·rw [hl, u1]; exact hS _ _ (by omega) (by omega)
         ·rw [hl, ← u2]; exact hd
        have hs : ∀ t, pq (fun i' => bif Nat.beq i' m then pv2 (pq g (i + k)) else elV ty2 g i') t = if t = m then pq g (i + k) else pq g t := fun t => by rw [pq_set]; rfl
        refine ds k i m g hk1 (by omega) (by omega) hm hd (ih (k + 1) (m + 1) _ (by omega) (by omega) (by omega) (by omega) (fun t ht htN => ?_) (fun a b hab hb => ?_) (fun q => ?_) ?_)
        ·rw [hs, if_neg (by omega)]; exact hu t (by omega) htN
        ·rw [hs, hs]
         by_cases b1 : b = m
         ·rw [if_neg (by omega), if_pos b1]
          by_cases a1 : a = m - 1
          ·rw [a1]; exact hlt
          ·exact ltP_trans (hss a (m - 1) (by omega) (by omega)) hlt
         ·rw [if_neg (by omega), if_neg b1]; exact hss a b hab (by omega)
        ·constructor
         ·rintro ⟨a, ha, e⟩
          rw [hs] at e
          by_cases a1 : a = m
          ·rw [if_pos a1] at e; exact ⟨i + k, by omega, by rw [← u1]; exact e⟩
          ·rw [if_neg a1] at e
           obtain ⟨c, hc, e'⟩ := (hmem q).1 ⟨a, by omega, e⟩
           exact ⟨c, by omega, e'⟩
         ·rintro ⟨a, ha, e⟩
          by_cases a1 : a = i + k
          ·exact ⟨m, by omega, by rw [hs, if_pos rfl, u1, ← a1]; exact e⟩
          ·obtain ⟨c, hc, e'⟩ := (hmem q).2 ⟨a, by omega, e⟩
           exact ⟨c, by omega, by rw [hs, if_neg (by omega)]; exact e'⟩
        ·rw [hs, Nat.add_sub_cancel, if_pos rfl, show i + (k + 1) - 1 = i + k by omega, u1]
    refine key (N - i - 1) 1 i _ (by omega) (Nat.le_refl _) (Nat.le_refl _) (by omega) (fun t _ _ => pq_el f t) h2 (fun q => ?_) ?_
    ·simp only [pq_el]
     constructor
     ·rintro ⟨a, ha, e⟩; exact ⟨a, by omega, e⟩
     ·rintro ⟨a, ha, e⟩
      by_cases ea : a = i
      ·subst ea; exact ⟨a - 1, by omega, by rw [← e]; exact (Prod.ext he.1 he.2).symm⟩
      ·exact ⟨a, by omega, e⟩
    ·rw [pq_el, show i + 1 - 1 = i by omega]; exact (Prod.ext he.1 he.2).symm
   ·refine cn i f hi (by omega) he (comp_ind ce cn cd ds dn de m (i + 1) _ (by omega) (by omega) hS (fun a b hab hb => ?_) h3)
    rw [pq_el, pq_el]
    by_cases b1 : b = i
    ·subst b1
     have hlt : ltP (pq f (b - 1)) (pq f b) := le_ne_lt (hS _ _ (by omega) (by omega)) he
     by_cases a1 : a = b - 1
     ·rw [a1]; exact hlt
     ·exact ltP_trans (h2 a (b - 1) (by omega) (by omega)) hlt
    ·exact h2 a b hab (by omega)
end
theorem rev_ind {N : Nat} {g : Nat -> P2} {P : Nat -> Nat -> (Nat -> List V) -> Prop} (r1 : ∀ i j f, i < j -> j < N -> P (i + 1) (j - 1) (swF f i j) -> P i j f)
 (r2 : ∀ i j f, ¬ i < j -> (∀ k, k < N -> pq f k = g (N - 1 - k)) -> P i j f) :
 ∀ m i j f, j - i <= m -> i + j + 1 = N -> (∀ k, k < N -> pq f k = if k < i ∨ j < k then g (N - 1 - k) else g k) -> P i j f
 | m, i, j, f, hm, hN, h => by
   by_cases hij : i < j
   ·match m, hm with
    | 0, hm => omega
    | m + 1, hm =>
      refine r1 i j f hij (by omega) (rev_ind r1 r2 m (i + 1) (j - 1) _ (by omega) (by omega) fun k hk => ?_)
      rw [pq_sw]
      by_cases k1 : k = j
      ·rw [if_pos k1, if_pos (by omega), h i (by omega), if_neg (by omega), show N - 1 - k = i by omega]
      ·rw [if_neg k1]
       by_cases k2 : k = i
       ·rw [if_pos k2, if_pos (by omega), h j (by omega), if_neg (by omega), show N - 1 - k = j by omega]
       ·rw [if_neg k2, h k hk]
        by_cases k3 : k < i ∨ j < k
        ·rw [if_pos k3, if_pos (by omega)]
        ·rw [if_neg k3, if_neg (by omega)]
   ·refine r2 i j f hij fun k hk => ?_
    rw [h k hk]
    by_cases k3 : k < i ∨ j < k
    ·rw [if_pos k3]
    ·rw [if_neg k3, show N - 1 - k = k by omega]
theorem chain_ind {base c : List P2} {PO : Nat -> Nat -> (Nat -> List V) -> Prop} {PI : Nat -> Nat -> Nat -> (Nat -> List V) -> Prop} {M : Nat} (hM : base.length + c.length <= M)
 (hO : ∀ i n fo, i < c.length -> n <= M -> PI i n n (elV ty2 fo) -> PO i n fo)
 (hpop : ∀ i n cap fo, i < c.length -> base.length + 1 < n -> n <= cap -> cap <= M -> (∀ k, k < n -> pq fo k ∈ base ∨ pq fo k ∈ c) -> sdp (pq fo (n - 2)) (pq fo (n - 1)) (pAt c i) <= 0 -> PI i (n - 1) cap (elV ty2 fo) -> PI i n cap fo)
 (happ : ∀ i n cap fo, i < c.length -> base.length <= n -> (∀ k, k < n -> pq fo k ∈ base ∨ pq fo k ∈ c) -> (base.length + 1 < n -> 0 < sdp (pq fo (n - 2)) (pq fo (n - 1)) (pAt c i)) -> n <= cap -> cap <= M -> PO (i + 1) (n + 1) (joinF n (elV ty2 fo) fun _ => pv2 (pAt c i)) -> PI i n cap fo)
 (hE : ∀ n fo, ptL n fo = base ++ (chainS [] c).reverse -> PO c.length n fo) :
 ∀ (l done st : List P2) (n : Nat) (fo : Nat -> List V), c = done ++ l -> chainS st l = chainS [] c -> ptL n fo = base ++ st.reverse -> st.length <= done.length -> (∀ q ∈ st, q ∈ c) -> PO done.length n fo
 | [], done, st, n, fo, h1, h2, h3, _, _ => by
   rw [List.append_nil] at h1
   rw [← h1]
   simp only [chainS] at h2
   exact hE n fo (by rw [h3, h2])
 | p :: l, done, st, n, fo, h1, h2, h3, h4, h5 => by
   have hlen : done.length < c.length := by rw [h1]; simp
   have hp : pAt c done.length = p := by
    have := pAt_some (l := c) hlen
    rw [h1, List.getElem?_append_right (Nat.le_refl _), Nat.sub_self] at this
    simp only [List.getElem?_cons_zero, Option.some.injEq] at this
    rw [h1]; exact this.symm
   have hnn : ∀ {st : List P2} {n fo}, ptL n fo = base ++ st.reverse -> n = base.length + st.length := fun {st n fo} h => by
    have := congrArg List.length h
    rwa [ptL_len, List.length_append, List.length_reverse] at this
   have hn := hnn h3
   have hpc : p ∈ c := by rw [h1]; simp
   have hel : ∀ {st : List P2} {n fo}, (∀ q ∈ st, q ∈ c) -> ptL n fo = base ++ st.reverse -> ∀ k, k < n -> pq fo k ∈ base ∨ pq fo k ∈ c := fun {st n fo} hs h k hk => by
    have : pq fo k ∈ base ++ st.reverse := by rw [← h]; exact ptL_mem.2 ⟨k, hk, rfl⟩
    rcases List.mem_append.1 this with h | h
    ·exact .inl h
    ·exact .inr (hs _ (List.mem_reverse.1 h))
   refine hO done.length n fo hlen (by omega) ?_
   have fin : ∀ (st' : List P2) (n : Nat) (fo : Nat -> List V), popS p st' = st' -> st'.length <= done.length -> (∀ q ∈ st', q ∈ c) -> popS p st' = popS p st -> ptL n fo = base ++ st'.reverse -> PO (done.length + 1) (n + 1) (joinF n (elV ty2 fo) fun _ => pv2 (pAt c done.length)) := fun st' n fo e0 hl' hs' e hl => by
    have := chain_ind hM hO hpop happ hE l (done ++ [p]) (p :: st') (n + 1) (joinF n (elV ty2 fo) fun _ => pv2 (pAt c done.length)) (by rw [h1]; simp) (by rw [← h2]; simp only [chainS]; rw [← e, e0]) (by rw [ptL_snoc, hl, hp]; simp) (by simp; omega) (fun q hq => by
     rcases List.mem_cons.1 hq with rfl | hq
     ·exact hpc
     ·exact hs' q hq)
    rwa [List.length_append, List.length_singleton] at this
   have key : ∀ (st' : List P2) (n : Nat) (fo : Nat -> List V), st'.length <= done.length -> (∀ q ∈ st', q ∈ c) -> popS p st' = popS p st -> ptL n fo = base ++ st'.reverse -> ∀ cap, n <= cap -> cap <= M -> PI done.length n cap fo := by
    intro st'
    induction st' with
    | nil =>
      intro n fo hsl hss hpop' hl cap hc hcM
      have hn' := hnn hl
      simp only [List.length_nil] at hn'
      refine happ done.length n cap fo hlen (by omega) (hel hss hl) (fun h => by omega) hc hcM (fin [] n fo rfl hsl hss hpop' hl)
    | cons b st' ih =>
      intro n fo hsl hss hpop' hl cap hc hcM
      cases st' with
      | nil =>
        have hn' := hnn hl
        simp only [List.length_cons, List.length_nil] at hn'
        exact happ done.length n cap fo hlen (by omega) (hel hss hl) (fun h => by omega) hc hcM (fin [b] n fo rfl hsl hss hpop' hl)
      | cons a l' =>
        have hn' := hnn hl
        simp only [List.length_cons] at hn'
        have e1 : pq fo (n - 1) = b := by
         have := ptL_at (f := fo) (n := n) (k := n - 1) (by omega)
         rw [hl, List.getElem?_append_right (by omega), List.reverse_cons, List.reverse_cons, List.getElem?_append_right (by simp; omega)] at this
         have e : n - 1 - base.length - (l'.reverse ++ [a]).length = 0 := by simp; omega
         rw [e] at this
         simp only [List.getElem?_cons_zero, Option.some.injEq] at this
         exact this.symm
        have e2 : pq fo (n - 2) = a := by
         have := ptL_at (f := fo) (n := n) (k := n - 2) (by omega)
         rw [hl, List.getElem?_append_right (by omega), List.reverse_cons, List.reverse_cons, List.getElem?_append_left (by simp; omega), List.getElem?_append_right (by simp; omega)] at this
         have e : n - 2 - base.length - l'.reverse.length = 0 := by simp; omega
         rw [e] at this
         simp only [List.getElem?_cons_zero, Option.some.injEq] at this
         exact this.symm
        by_cases hs : sdp a b p <= 0
        ·refine hpop done.length n cap fo hlen (by omega) hc hcM (hel hss hl) (by rw [e1, e2, hp]; exact hs) (ih (n - 1) _ (by simp only [List.length_cons] at hsl ⊢; omega) (fun q hq => hss q (List.mem_cons_of_mem _ hq)) ?_ ?_ cap (by omega) hcM)
         ·rw [← hpop']
          simp only [popS]
          rw [dqt hs]; rfl
         ·rw [ptL_el, ptL_take (n := n) (by omega), hl]
          rw [List.reverse_cons (a := b), ← List.append_assoc, List.take_append_of_le_length (by simp; omega), List.take_of_length_le (by simp; omega)]
        ·refine happ done.length n cap fo hlen (by omega) (hel hss hl) (fun _ => by rw [e1, e2, hp]; omega) hc hcM (fin (b :: a :: l') n fo ?_ hsl hss hpop' hl)
         simp only [popS]
         rw [dqf hs]; rfl
   exact key st n (elV ty2 fo) h4 h5 rfl h3 n (Nat.le_refl _) (by omega)
noncomputable section
def SmP (p : P2) : Prop := sm p.1 /\ sm p.2
theorem cmpT {a b : P2} (ha : SmP a) (hb : SmP b) : decide (F140_0 a.1 a.2 b.1 b.2 < 0) = true ↔ ltP a b := by
 unfold SmP sm at ha hb
 unfold F140_0 ltP
 rw [decide_eq_true_eq]
 by_cases h : a.1 = b.1
 ·have : (a.1 != b.1) = false := by simp [h]
  rw [this, cond_false, wrapI (by omega) (by omega)]; omega
 ·have : (a.1 != b.1) = true := by simp [h]
  rw [this, cond_true, wrapI (by omega) (by omega)]; omega
theorem sdT {a b p : P2} (ha : SmP a) (hb : SmP b) (hp : SmP p) : F78_0 a.1 a.2 b.1 b.2 p.1 p.2 = sdp a b p := by
 unfold F78_0; exact (sd_p ha.1 ha.2 hb.1 hb.2 hp.1 hp.2).1
theorem nrT {a b p : P2} {r : Int} (ha : SmP a) (hb : SmP b) (hp : SmP p) (h7 : 0 <= r) (h8 : r <= 1073741824) : F103_0 a.1 a.2 b.1 b.2 p.1 p.2 r = nrp a b p r := near_p ha.1 ha.2 hb.1 hb.2 hp.1 hp.2 h7 h8
theorem eqB (a b c d : Int) : (a == b && (c == d && true)) = decide (a = b /\ c = d) := by
 by_cases h1 : a = b <;> by_cases h2 : c = d <;> simp [h1, h2]
theorem wm1 {j : Nat} (h : 0 < j) (hj : j <= 1000) : IntKind.i64.wrap ((j : Int) - 1) = ((j - 1 : Nat) : Int) := by rw [wrapI (by omega) (by omega)]; omega
theorem wm2 {j : Nat} (h : 1 < j) (hj : j <= 1000) : IntKind.i64.wrap ((j : Int) - 2) = ((j - 2 : Nat) : Int) := by rw [wrapI (by omega) (by omega)]; omega
theorem wp1 {j : Nat} (hj : j <= 1000) : IntKind.i64.wrap ((j : Int) + 1) = ((j + 1 : Nat) : Int) := by rw [wrapI (by omega) (by omega)]; omega
theorem inStep {S : Type} {Nx : S -> V -> Prop} {r : V} {C b1 b2 b3 b4 s : Bool} {X Y Z : RT S} (hb : C = true -> b1 = true /\ b2 = true /\ b3 = true /\ b4 = true) (hX : C = true -> s = true -> evR Nx X r) (hY : C = true -> s = false -> evR Nx Y r) (hZ : C = false -> evR Nx Z r) :
 evR Nx (.obi (.obi (.obi (.obi (.obj C b1 (.obi (.obj C b2 (.obi (.obi (.obi (.obi (.obj C b3 (.obi (.obj C b4 (.obi (.obi (.br C (.ob C (.ob C (.obc (.obt (.br s X Y))))) Z))))))))))))))))) r :=
 evObi (evObi (evObi (evObi (evObj (fun h => (hb h).1) (evObi (evObj (fun h => (hb h).2.1) (evObi (evObi (evObi (evObi (evObj (fun h => (hb h).2.2.1) (evObi (evObj (fun h => (hb h).2.2.2) (evObi (evObi (evBr (fun h => evOb h (evOb h (evObc (evObt (evBr (hX h) (hY h)))))) hZ))))))))))))))))
def tpB (H : List P2) (m : P2) (r : Int) : Bool := @decide (TP H m r) (Classical.propDecidable _)
theorem tpB_t {H : List P2} {m : P2} {r : Int} (h : TP H m r) : tpB H m r = true := @dqt _ (Classical.propDecidable _) h
theorem tpB_f {H : List P2} {m : P2} {r : Int} (h : ¬ TP H m r) : tpB H m r = false := @dqf _ (Classical.propDecidable _) h
theorem app_ok {n cap : Nat} (h : n <= cap) (hc : cap <= 1000) : (decide (n <= cap /\ (n + 1) * 16 <= 140737488355328) && !Nat.beq 16 0) = true := by
 rw [Bool.and_eq_true]; exact ⟨dqt ⟨h, by omega⟩, rfl⟩
theorem ptL_pAt {n : Nat} {f : Nat -> List V} {k : Nat} (h : k < n) : pAt (ptL n f) k = pq f k := by
 have h1 := pAt_some (l := ptL n f) (i := k) (by rw [ptL_len]; exact h)
 rw [ptL_at h] at h1
 exact (Option.some.inj h1).symm
theorem hullL_eq {c : List P2} (h : 2 <= c.length) : hullL c = (chainS [] c).tail.reverse ++ (chainS [] c.reverse).tail.reverse := by
 match c, h with
 | a :: b :: l, _ => rfl
theorem SSr.cong {m : Nat} {f g : Nat -> List V} (h : SSr m f) (e : ∀ k, k < m -> pq g k = pq f k) : SSr m g := fun a b h1 h2 => by rw [e a (by omega), e b h2]; exact h a b h1 h2
theorem MemN.cong {m : Nat} {D : P2 -> Prop} {f g : Nat -> List V} (h : MemN m D f) (e : ∀ k, k < m -> pq g k = pq f k) : MemN m D g := fun q => by
 rw [h q]
 exact ⟨fun ⟨k, hk, h⟩ => ⟨k, hk, by rw [e k hk]; exact h⟩, fun ⟨k, hk, h⟩ => ⟨k, hk, by rw [← e k hk]; exact h⟩⟩
theorem pq_clr {f : Nat -> List V} {l : List V} {m n k : Nat} (h : k < m) : pq (fun i => bif Nat.ble m i && Nat.ble i.succ n then l else elV ty2 f i) k = pq f k := by
 unfold pq
 dsimp only
 have : Nat.ble m k = false := by
  cases hb : Nat.ble m k with
  | false => rfl
  | true => have := Nat.le_of_ble_eq_true hb; omega
 rw [this]; rfl
theorem ptL_pw {m : Nat} {f : Nat -> List V} (h : SSr m f) : (ptL m f).Pairwise ltP := by
 unfold ptL
 rw [List.pairwise_map]
 refine List.Pairwise.imp_of_mem ?_ (List.pairwise_lt_range (n := m))
 intro a b ha hb hab
 exact h a b hab (List.mem_range.1 hb)
theorem ptL_rev {m : Nat} {f g : Nat -> List V} (h : ∀ k, k < m -> pq g k = pq f (m - 1 - k)) : ptL m g = (ptL m f).reverse := by
 apply List.ext_getElem?
 intro k
 by_cases hk : k < m
 ·rw [ptL_at hk, List.getElem?_reverse (by rw [ptL_len]; exact hk), ptL_len, ptL_at (by omega), h k hk]
 ·rw [List.getElem?_eq_none (by rw [ptL_len]; omega), List.getElem?_eq_none (by rw [List.length_reverse, ptL_len]; omega)]
theorem ptL_cong {m : Nat} {f g : Nat -> List V} (h : ∀ k, k < m -> pq g k = pq f k) : ptL m g = ptL m f := by
 unfold ptL; exact List.map_congr_left fun k hk => h k (List.mem_range.1 hk)
theorem ptL_last {n : Nat} {f : Nat -> List V} {base st : List P2} (h : ptL n f = base ++ st.reverse) (hs : st ≠ []) : 0 < n /\ ptL (n - 1) f = base ++ st.tail.reverse /\ n = base.length + st.length /\ 0 < st.length := by
 have hl := congrArg List.length h
 rw [ptL_len, List.length_append, List.length_reverse] at hl
 match st, hs with
 | s :: l, _ =>
   simp only [List.length_cons] at hl
   refine ⟨by omega, ?_, by simp only [List.length_cons]; omega, by simp⟩
   rw [ptL_take (n := n) (by omega), h, List.reverse_cons, ← List.append_assoc, List.take_append_of_le_length (by simp; omega), List.take_of_length_le (by simp; omega)]; rfl
theorem popS_sub {p q : P2} : ∀ {st : List P2}, q ∈ popS p st -> q ∈ st
 | [], h => h
 | [s], h => h
 | b :: a :: l, h => by
   simp only [popS] at h
   cases hd : decide (sdp a b p <= 0) with
   | true => rw [hd] at h; exact List.mem_cons_of_mem _ (popS_sub h)
   | false => rw [hd] at h; exact h
theorem chainS_sub {q : P2} : ∀ {l st : List P2}, q ∈ chainS st l -> q ∈ st ∨ q ∈ l
 | [], st, h => .inl h
 | p :: l, st, h => by
   simp only [chainS] at h
   rcases chainS_sub h with h | h
   ·rcases List.mem_cons.1 h with rfl | h
    ·exact .inr (by simp)
    ·exact .inl (popS_sub h)
   ·exact .inr (List.mem_cons_of_mem _ h)
theorem chainS_ne : ∀ {l st : List P2}, st ≠ [] ∨ l ≠ [] -> chainS st l ≠ []
 | [], st, h => by
   rcases h with h | h
   ·exact h
   ·exact (h rfl).elim
 | p :: l, st, _ => chainS_ne (l := l) (.inl (by simp))
theorem popS_len {p : P2} : ∀ {st : List P2}, (popS p st).length <= st.length
 | [] => Nat.le_refl _
 | [_] => Nat.le_refl _
 | b :: a :: l => by
   simp only [popS]
   cases decide (sdp a b p <= 0) with
   | true => have := popS_len (p := p) (st := a :: l); simp only [List.length_cons, cond_true] at *; omega
   | false => exact Nat.le_refl _
theorem chainS_len : ∀ {l st : List P2}, (chainS st l).length <= st.length + l.length
 | [], st => Nat.le_refl _
 | p :: l, st => by
   simp only [chainS]
   have := chainS_len (l := l) (st := p :: popS p st)
   have := popS_len (p := p) (st := st)
   simp only [List.length_cons] at *; omega
theorem hullL_sub {q : P2} {c : List P2} (h : q ∈ hullL c) : q ∈ c := by
 match c, h with
 | [a], h => exact h
 | a :: b :: l, h =>
   rcases List.mem_append.1 h with h | h
   ·rcases chainS_sub (List.mem_of_mem_tail (List.mem_reverse.1 h)) with h | h
    ·cases h
    ·exact h
   ·rcases chainS_sub (List.mem_of_mem_tail (List.mem_reverse.1 h)) with h | h
    ·cases h
    ·exact List.mem_reverse.1 h
theorem hull2 {c : List P2} (h : c.length < 3) : hullL c = c := by
 match c, h with
 | [], _ => rfl
 | [a], _ => rfl
 | [a, b], _ => rfl
theorem hullL_pos {c : List P2} (hs : c.Pairwise ltP) (h : c ≠ []) : 0 < (hullL c).length := by
 match c, hs, h with
 | [a], _, _ => simp [hullL]
 | a :: b :: l, hs, _ =>
   obtain ⟨z, H⟩ := hull_of hs (by simp)
   have := H.lenA
   simp only [hullL, List.length_append, List.length_reverse, List.length_tail]; omega
def refB (L : List P2) (m : P2) (r : Int) : Bool := @decide (RefT (fun q => q ∈ L) m r) (Classical.propDecidable _)
theorem tp_refB {c L : List P2} (hs : c.Pairwise ltP) (h0 : c ≠ []) (hm : ∀ q, q ∈ L ↔ q ∈ c) {m : P2} {r : Int} (hr : 0 <= r) : tpB (hullL c) m r = refB L m r := by
 unfold tpB refB
 have : RefT (fun q => q ∈ L) m r ↔ TP (hullL c) m r := by
  rw [tp_iff hs h0 hr, show (fun q => q ∈ L) = fun q => q ∈ c from funext fun q => propext (hm q)]
 by_cases h : TP (hullL c) m r
 ·rw [@dqt _ (Classical.propDecidable _) h, @dqt _ (Classical.propDecidable _) (this.2 h)]
 ·rw [@dqf _ (Classical.propDecidable _) h, @dqf _ (Classical.propDecidable _) fun g => h (this.1 g)]
end
end Go.Dx
namespace Go.Dx
open Go.IntKind (i64 u64 u8)
open Go.Sx Go.Proofs
noncomputable section
def ctB29 : CTab := [(131, .con CB131), (19, .con C19), (22, .con C22), (25, .con C25), (15, .con C15), (55, .con C55), (61, .con C61), (74, .con C74), (108, .con C108), (46, .con C46), (111, .con C111), (56, .con C56), (47, .con C47), (145, .con C145), (140, .con C140), (49, .con C49), (123, .con C123), (44, .con C44), (23, .con C23), (62, .con C62), (68, .con C68), (63, .con C63), (69, .con C69), (117, .inl s117 u0), (116, .inl s116 u0), (115, .con C115), (114, .con C114), (147, .con C147), (64, .con C64), (66, .con C66), (113, .con C113), (65, .con C65), (67, .con C67), (53, .con C53), (45, .con C45), (90, .con C90), (119, .con C119), (121, .con C121), (99, .con C99), (129, .con C129), (148, .con C148), (149, .con C149), (112, .con C112), (118, .con C118), (120, .con C120), (133, .con C133), (103, .con C103), (100, .con C100), (134, .con C134), (135, .con C135), (78, .con C78), (54, .con C54), (48, .con C48), (102, .con C102), (84, .con C84), (85, .con C85), (127, .con C127), (101, .con C101), (86, .con C86), (162, .con C162), (146, .con C146), (83, .inl s83 u0), (109, .inl s109 u0), (139, .inl s139 u0), (177, .inl s177 u0), (141, .inl s141 u0), (142, .inl s142 u0), (143, .inl s143 u0), (163, .inl s163 u5)]
theorem tabB29 : TabOk Tryz.prog eqs its ctB29 := .con okB131 (.con ok19 (.con ok22 (.con ok25 (.con ok15 (.con ok55 (.con ok61 (.con ok74 (.con ok108 (.con ok46 (.con ok111 (.con ok56 (.con ok47 (.con ok145 (.con ok140 (.con ok49 (.con ok123 (.con ok44 (.con ok23 (.con ok62 (.con ok68 (.con ok63 (.con ok69 (.inl Tryz.func117 (by kernel_rfl) (by kernel_rfl) (by kernel_rfl) (.inl Tryz.func116 (by kernel_rfl) (by kernel_rfl) (by kernel_rfl) (.con ok115 (.con ok114 (.con ok147 (.con ok64 (.con ok66 (.con ok113 (.con ok65 (.con ok67 (.con ok53 (.con ok45 (.con ok90 (.con ok119 (.con ok121 (.con ok99 (.con ok129 (.con ok148 (.con ok149 (.con ok112 (.con ok118 (.con ok120 (.con ok133 (.con ok103 (.con ok100 (.con ok134 (.con ok135 (.con ok78 (.con ok54 (.con ok48 (.con ok102 (.con ok84 (.con ok85 (.con ok127 (.con ok101 (.con ok86 (.con ok162 (.con ok146 (.inl Tryz.func83 (by kernel_rfl) (by kernel_rfl) (by kernel_rfl) (.inl Tryz.func109 (by kernel_rfl) (by kernel_rfl) (by kernel_rfl) (.inl Tryz.func139 (by kernel_rfl) (by kernel_rfl) (by kernel_rfl) (.inl Tryz.func177 (by kernel_rfl) (by kernel_rfl) (by kernel_rfl) (.inl Tryz.func141 (by kernel_rfl) (by kernel_rfl) (by kernel_rfl) (.inl Tryz.func142 (by kernel_rfl) (by kernel_rfl) (by kernel_rfl) (.inl Tryz.func143 (by kernel_rfl) (by kernel_rfl) (by kernel_rfl) (.inl Tryz.func163 (by kernel_rfl) (by kernel_rfl) (by kernel_rfl) (.nil)))))))))))))))))))))))))))))))))))))))))))))))))))))))))))))))))))))
def u57 : Unr := fun k => bif Nat.beq k 0 then 5 else 0
inductive S57 where
 | L0 (ia0 : Int) (fa1 : Nat -> List V)
 | L1 (ib0 ib1 : Int) (fb2 : Nat -> List V)
 | L2 (ic0 : Int) (fc1 : Nat -> List V) (ic2 : Int) (fc3 : Nat -> List V)
 | L3 (id0 : Int) (nd1 nd2 : Nat) (id3 id4 id5 : Int) (nd6 : Nat) (id7 id8 : Int) (fd9 : Nat -> List V) (id10 : Int) (fd11 : Nat -> List V)
 | L4 (ie0 : Int) (fe1 : Nat -> List V) (ne2 : Nat) (fe3 : Nat -> List V) (ie4 : Int) (fe5 : Nat -> List V)
 | L5 (if0 if1 : Int) (nf2 : Nat) (bf3 : Bool) (nf4 : Nat) (ff5 : Nat -> List V)
 | L7 (ih0 : Int) (fh1 : Nat -> List V) (nh2 : Nat) (ih3 ih4 : Int) (nh5 : Nat) (fh6 : Nat -> List V) (ih7 : Int) (fh8 : Nat -> List V)
 | L12 (im0 im1 : Int) (nm2 : Nat) (fm3 : Nat -> List V) (nm4 : Nat) (fm5 : Nat -> List V) (im6 : Int) (nm7 nm8 : Nat) (im9 im10 im11 : Int) (nm12 : Nat) (im13 im14 : Int) (fm15 : Nat -> List V)
 | L13 (in0 in1 : Int) (fn2 : Nat -> List V) (nn3 nn4 : Nat) (fn5 : Nat -> List V) (in6 : Int) (fn7 : Nat -> List V)
 | L14 (io0 io1 : Int) (no2 : Nat) (fo3 : Nat -> List V) (no4 : Nat) (io5 io6 : Int) (no7 : Nat) (fo8 : Nat -> List V) (io9 : Int) (no10 no11 : Nat) (io12 io13 io14 : Int) (no15 : Nat) (io16 io17 : Int) (fo18 : Nat -> List V)
 | L15 (ip0 ip1 ip2 : Int) (np3 : Nat) (fp4 : Nat -> List V) (np5 np6 : Nat) (fp7 : Nat -> List V) (ip8 : Int) (np9 np10 : Nat) (ip11 ip12 ip13 : Int) (np14 : Nat) (ip15 ip16 : Int) (fp17 : Nat -> List V)
 | L18 (is0 : Int) (fs1 : Nat -> List V) (ns2 ns3 : Nat) (fs4 : Nat -> List V) (is5 is6 : Int) (fs7 : Nat -> List V) (fs8 : Nat -> List V) (is9 : Int) (fs10 : Nat -> List V)
 | L20 (iu0 : Int) (fu1 : Nat -> List V) (nu2 nu3 : Nat) (fu4 : Nat -> List V) (iu5 iu6 iu7 iu8 : Int) (fu9 : Nat -> List V) (nu10 : Nat) (fu11 : Nat -> List V) (iu12 : Int) (fu13 : Nat -> List V)
 | L22 (iw0 iw1 : Int) (fw2 : Nat -> List V) (nw3 : Nat) (iw4 iw5 : Int) (fw6 : Nat -> List V) (iw7 iw8 : Int) (fw9 : Nat -> List V) (nw10 nw11 : Nat) (fw12 : Nat -> List V) (iw13 : Int) (fw14 : Nat -> List V)
 | L23 (ix0 ix1 : Int) (fx2 : Nat -> List V) (nx3 : Nat) (ix4 ix5 : Int) (nx6 : Nat) (fx7 : Nat -> List V) (ix8 ix9 : Int) (fx10 : Nat -> List V) (nx11 nx12 : Nat) (fx13 : Nat -> List V) (ix14 : Int) (fx15 : Nat -> List V)
 | L24 (iy0 : Int) (ny1 : Nat) (iy2 : Int) (fy3 : Nat -> List V) (ny4 ny5 : Nat) (fy6 : Nat -> List V) (iy7 iy8 iy9 : Int) (ny10 : Nat) (fy11 : Nat -> List V) (fy12 : Nat -> List V) (iy13 : Int) (ny14 ny15 : Nat) (iy16 iy17 iy18 : Int) (ny19 : Nat) (iy20 iy21 : Int) (fy22 : Nat -> List V)
 | L25 (iz0 : Int) (nz1 : Nat) (iz2 : Int) (fz3 : Nat -> List V) (nz4 nz5 : Nat) (fz6 : Nat -> List V) (iz7 iz8 iz9 iz10 iz11 : Int) (nz12 : Nat) (fz13 : Nat -> List V) (nz14 : Nat) (fz15 : Nat -> List V) (iz16 : Int) (nz17 nz18 : Nat) (iz19 iz20 iz21 : Int) (nz22 : Nat) (iz23 iz24 : Int) (fz25 : Nat -> List V)
 | L26 (iza0 iza1 : Int) (nza2 : Nat) (iza3 : Int) (fza4 : Nat -> List V) (nza5 : Nat) (iza6 iza7 : Int) (fza8 : Nat -> List V) (iza9 iza10 iza11 : Int) (nza12 : Nat) (fza13 : Nat -> List V) (nza14 nza15 : Nat) (fza16 : Nat -> List V) (iza17 : Int) (nza18 nza19 : Nat) (iza20 iza21 iza22 : Int) (nza23 : Nat) (iza24 iza25 : Int) (fza26 : Nat -> List V)
 | L27 (izb0 izb1 : Int) (nzb2 : Nat) (izb3 : Int) (fzb4 : Nat -> List V) (nzb5 : Nat) (izb6 izb7 : Int) (nzb8 : Nat) (fzb9 : Nat -> List V) (izb10 izb11 izb12 : Int) (nzb13 : Nat) (fzb14 : Nat -> List V) (nzb15 nzb16 : Nat) (fzb17 : Nat -> List V) (izb18 : Int) (nzb19 nzb20 : Nat) (izb21 izb22 izb23 : Int) (nzb24 : Nat) (izb25 izb26 : Int) (fzb27 : Nat -> List V)
def pf57 (x0 x1 x2 x3 x4 x5 x6 x7 : Int) (b8 : Bool) (x9 x10 x11 x12 : Int) (l : List O) : List O := O.cells [vi x0, vi x1, vi x2, vi x3, vi x4, vi x5, vi x6, vi x7, V.bool b8] 97 :: O.cells [vi x9, vi x10, vi x11, vi x12] 29 :: O.cells [vi x9, vi x10] 95 :: O.cells [vi (F102_0 x0 x2 x9 x3), vi (F102_1 x1 x2 x10 x3), vi (F102_0 x0 x2 x9 x4), vi (F102_1 x1 x2 x10 x4)] 95 :: O.hid :: O.cells [vi x11, vi x10] 95 :: O.cells [vi (F102_0 x0 x2 x11 x3), vi (F102_1 x1 x2 x10 x3), vi (F102_0 x0 x2 x11 x4), vi (F102_1 x1 x2 x10 x4)] 95 :: O.hid :: O.cells [vi x11, vi x12] 95 :: O.cells [vi (F102_0 x0 x2 x11 x3), vi (F102_1 x1 x2 x12 x3), vi (F102_0 x0 x2 x11 x4), vi (F102_1 x1 x2 x12 x4)] 95 :: O.hid :: O.cells [vi x9, vi x12] 95 :: O.cells [vi (F102_0 x0 x2 x9 x3), vi (F102_1 x1 x2 x12 x3), vi (F102_0 x0 x2 x9 x4), vi (F102_1 x1 x2 x12 x4)] 95 :: l
def inv57 (x0 x1 x2 x3 x4 x5 x6 x7 : Int) (b8 : Bool) (x9 x10 x11 x12 : Int) : S57 -> Env × List O × Option Ex
 | .L0 ia0 fa1 => ([(8, vi ia0), (0, V.gs 13 8), (1, vi 0), (2, vi (↑8 : Int)), (3, V.fn 140 [] [])], pf57 x0 x1 x2 x3 x4 x5 x6 x7 b8 x9 x10 x11 x12 [O.gl 2 8 (elV tp2 fa1) 95], none)
 | .L1 ib0 ib1 fb2 => ([(9, vi ib0), (8, vi ib1), (0, V.gs 13 8), (1, vi 0), (2, vi (↑8 : Int)), (3, V.fn 140 [] [])], pf57 x0 x1 x2 x3 x4 x5 x6 x7 b8 x9 x10 x11 x12 [O.gl 2 8 (elV tp2 fb2) 95], none)
 | .L2 ic0 fc1 ic2 fc3 => ([(3, vi ic0), (8, V.kb false), (2, V.ns), (0, V.gs 13 8)], pf57 x0 x1 x2 x3 x4 x5 x6 x7 b8 x9 x10 x11 x12 [O.gl 2 8 (elV tp2 fc1) 95], none)
 | .L3 id0 nd1 nd2 id3 id4 id5 nd6 id7 id8 fd9 id10 fd11 => ([(5, vi id0), (4, V.go 13 nd1 nd2), (28, V.go 13 nd1 nd2), (27, vi id3), (26, V.gs 13 8), (25, V.kb true), (24, V.agg [vi id4, vi id5]), (23, V.pe 13 nd6 0), (22, vi id7), (21, vi id3), (20, V.gs 13 8), (10, vi id3), (3, vi id8), (8, V.kb false), (2, V.ns), (0, V.gs 13 8)], pf57 x0 x1 x2 x3 x4 x5 x6 x7 b8 x9 x10 x11 x12 [O.gl 2 8 (elV tp2 fd9) 95], none)
 | .L4 ie0 fe1 ne2 fe3 ie4 fe5 => ([(10, vi ie0), (9, vi (↑8 : Int)), (8, V.gs 13 8), (3, vi 0), (0, V.gs 13 8), (1, V.pl 14 0)], pf57 x0 x1 x2 x3 x4 x5 x6 x7 b8 x9 x10 x11 x12 [O.gl 2 8 (elV tp2 fe1) 95, O.cells [V.gs 15 ne2] 111, O.gl 2 ne2 (elV tp2 fe3) 95], none)
 | .L5 if0 if1 nf2 bf3 nf4 ff5 => ([(40, vi if0), (39, vi if1), (38, V.gs 0 nf2), (8, V.bool bf3), (5, V.gs 0 nf2), (16, vi (i64.wrap (i64.wrap (i64.wrap (i64.wrap (0 + 1) + 1) + 1) + 1))), (15, V.agg [vi x9, vi x10, vi x11, vi x10, vi x11, vi x12, vi x9, vi x12]), (2, V.pl 1 0)], [O.gl 2 nf4 (elV tp2 ff5) 95, O.cells [vi x0, vi x1, vi x2, vi x3, vi x4, vi x5, vi x6, vi x7, V.bool b8] 97], none)
 | .L7 ih0 fh1 nh2 ih3 ih4 nh5 fh6 ih7 fh8 => ([(5, V.pl 15 0), (10, vi ih0), (9, vi (↑8 : Int)), (8, V.gs 13 8), (3, vi 0), (0, V.gs 13 8), (1, V.pl 14 0)], pf57 x0 x1 x2 x3 x4 x5 x6 x7 b8 x9 x10 x11 x12 [O.gl 2 8 (elV tp2 fh1) 95, O.cells [V.gs 16 nh2] 111, O.cells [vi ih3, vi ih4] 95, O.gl 2 nh5 (elV tp2 fh6) 95], none)
 | .L12 im0 im1 nm2 fm3 nm4 fm5 im6 nm7 nm8 im9 im10 im11 nm12 im13 im14 fm15 => ([(10, vi im0), (9, vi im1), (8, V.gs 13 nm2), (3, vi 0), (0, V.gs 13 nm2), (1, V.pl 14 0)], pf57 x0 x1 x2 x3 x4 x5 x6 x7 b8 x9 x10 x11 x12 [O.gl 2 8 (elV tp2 fm3) 95, O.cells [V.gs 15 nm4] 111, O.gl 2 nm4 (elV tp2 fm5) 95], none)
 | .L13 in0 in1 fn2 nn3 nn4 fn5 in6 fn7 => ([(3, vi in0), (2, vi in1), (5, vi (↑8 : Int)), (4, V.gs 13 8), (0, V.gs 13 8)], pf57 x0 x1 x2 x3 x4 x5 x6 x7 b8 x9 x10 x11 x12 [O.gl 2 8 (elV tp2 fn2) 95, O.cells [V.gs 15 nn3] 111, O.gl 2 nn4 (elV tp2 fn5) 95], none)
 | .L14 io0 io1 no2 fo3 no4 io5 io6 no7 fo8 io9 no10 no11 io12 io13 io14 no15 io16 io17 fo18 => ([(5, V.pl 15 0), (10, vi io0), (9, vi io1), (8, V.gs 13 no2), (3, vi 0), (0, V.gs 13 no2), (1, V.pl 14 0)], pf57 x0 x1 x2 x3 x4 x5 x6 x7 b8 x9 x10 x11 x12 [O.gl 2 8 (elV tp2 fo3) 95, O.cells [V.gs 16 no4] 111, O.cells [vi io5, vi io6] 95, O.gl 2 no7 (elV tp2 fo8) 95], none)
 | .L15 ip0 ip1 ip2 np3 fp4 np5 np6 fp7 ip8 np9 np10 ip11 ip12 ip13 np14 ip15 ip16 fp17 => ([(3, vi ip0), (2, vi ip1), (5, vi ip2), (4, V.gs 13 np3), (0, V.gs 13 np3)], pf57 x0 x1 x2 x3 x4 x5 x6 x7 b8 x9 x10 x11 x12 [O.gl 2 8 (elV tp2 fp4) 95, O.cells [V.gs 15 np5] 111, O.gl 2 np6 (elV tp2 fp7) 95], none)
 | .L18 is0 fs1 ns2 ns3 fs4 is5 is6 fs7 fs8 is9 fs10 => ([(10, vi 0), (9, vi (↑8 : Int)), (8, V.gs 13 8), (3, vi is0), (0, V.gs 13 8), (1, V.pl 14 0)], pf57 x0 x1 x2 x3 x4 x5 x6 x7 b8 x9 x10 x11 x12 [O.gl 2 8 (elV tp2 fs1) 95, O.cells [V.gs 15 ns2] 111, O.gl 2 ns3 (elV tp2 fs4) 95], none)
 | .L20 iu0 fu1 nu2 nu3 fu4 iu5 iu6 iu7 iu8 fu9 nu10 fu11 iu12 fu13 => ([(5, V.pl 16 0), (10, vi 0), (9, vi (↑8 : Int)), (8, V.gs 13 8), (3, vi iu0), (0, V.gs 13 8), (1, V.pl 14 0)], pf57 x0 x1 x2 x3 x4 x5 x6 x7 b8 x9 x10 x11 x12 [O.gl 2 8 (elV tp2 fu1) 95, O.cells [V.gs 15 nu2] 111, O.gl 2 nu3 (elV tp2 fu4) 95, O.cells [vi iu5, vi iu6] 95], none)
 | .L22 iw0 iw1 fw2 nw3 iw4 iw5 fw6 iw7 iw8 fw9 nw10 nw11 fw12 iw13 fw14 => ([(10, vi iw0), (5, V.pl 16 0), (9, vi (↑8 : Int)), (8, V.gs 13 8), (3, vi iw1), (0, V.gs 13 8), (1, V.pl 14 0)], pf57 x0 x1 x2 x3 x4 x5 x6 x7 b8 x9 x10 x11 x12 [O.gl 2 8 (elV tp2 fw2) 95, O.cells [V.gs 17 nw3] 111, O.hid, O.cells [vi iw4, vi iw5] 95, O.gl 2 nw3 (elV tp2 fw6) 95], none)
 | .L23 ix0 ix1 fx2 nx3 ix4 ix5 nx6 fx7 ix8 ix9 fx10 nx11 nx12 fx13 ix14 fx15 => ([(5, V.pl 16 0), (10, vi ix0), (9, vi (↑8 : Int)), (8, V.gs 13 8), (3, vi ix1), (0, V.gs 13 8), (1, V.pl 14 0)], pf57 x0 x1 x2 x3 x4 x5 x6 x7 b8 x9 x10 x11 x12 [O.gl 2 8 (elV tp2 fx2) 95, O.cells [V.gs 17 nx3] 111, O.hid, O.cells [vi ix4, vi ix5] 95, O.gl 2 nx6 (elV tp2 fx7) 95], none)
 | .L24 iy0 ny1 iy2 fy3 ny4 ny5 fy6 iy7 iy8 iy9 ny10 fy11 fy12 iy13 ny14 ny15 iy16 iy17 iy18 ny19 iy20 iy21 fy22 => ([(10, vi 0), (9, vi iy0), (8, V.gs 13 ny1), (3, vi iy2), (0, V.gs 13 ny1), (1, V.pl 14 0)], pf57 x0 x1 x2 x3 x4 x5 x6 x7 b8 x9 x10 x11 x12 [O.gl 2 8 (elV tp2 fy3) 95, O.cells [V.gs 15 ny4] 111, O.gl 2 ny5 (elV tp2 fy6) 95], none)
 | .L25 iz0 nz1 iz2 fz3 nz4 nz5 fz6 iz7 iz8 iz9 iz10 iz11 nz12 fz13 nz14 fz15 iz16 nz17 nz18 iz19 iz20 iz21 nz22 iz23 iz24 fz25 => ([(5, V.pl 16 0), (10, vi 0), (9, vi iz0), (8, V.gs 13 nz1), (3, vi iz2), (0, V.gs 13 nz1), (1, V.pl 14 0)], pf57 x0 x1 x2 x3 x4 x5 x6 x7 b8 x9 x10 x11 x12 [O.gl 2 8 (elV tp2 fz3) 95, O.cells [V.gs 15 nz4] 111, O.gl 2 nz5 (elV tp2 fz6) 95, O.cells [vi iz7, vi iz8] 95], none)
 | .L26 iza0 iza1 nza2 iza3 fza4 nza5 iza6 iza7 fza8 iza9 iza10 iza11 nza12 fza13 nza14 nza15 fza16 iza17 nza18 nza19 iza20 iza21 iza22 nza23 iza24 iza25 fza26 => ([(10, vi iza0), (5, V.pl 16 0), (9, vi iza1), (8, V.gs 13 nza2), (3, vi iza3), (0, V.gs 13 nza2), (1, V.pl 14 0)], pf57 x0 x1 x2 x3 x4 x5 x6 x7 b8 x9 x10 x11 x12 [O.gl 2 8 (elV tp2 fza4) 95, O.cells [V.gs 17 nza5] 111, O.hid, O.cells [vi iza6, vi iza7] 95, O.gl 2 nza5 (elV tp2 fza8) 95], none)
 | .L27 izb0 izb1 nzb2 izb3 fzb4 nzb5 izb6 izb7 nzb8 fzb9 izb10 izb11 izb12 nzb13 fzb14 nzb15 nzb16 fzb17 izb18 nzb19 nzb20 izb21 izb22 izb23 nzb24 izb25 izb26 fzb27 => ([(5, V.pl 16 0), (10, vi izb0), (9, vi izb1), (8, V.gs 13 nzb2), (3, vi izb3), (0, V.gs 13 nzb2), (1, V.pl 14 0)], pf57 x0 x1 x2 x3 x4 x5 x6 x7 b8 x9 x10 x11 x12 [O.gl 2 8 (elV tp2 fzb4) 95, O.cells [V.gs 17 nzb5] 111, O.hid, O.cells [vi izb6, vi izb7] 95, O.gl 2 nzb8 (elV tp2 fzb9) 95], none)
def id57 : S57 -> JJ
 | .L0 ia0 fa1 => (0, [])
 | .L1 ib0 ib1 fb2 => (1, [])
 | .L2 ic0 fc1 ic2 fc3 => (2, [Cx.i ic2, Cx.f fc3])
 | .L3 id0 nd1 nd2 id3 id4 id5 nd6 id7 id8 fd9 id10 fd11 => (3, [Cx.i id10, Cx.f fd11])
 | .L4 ie0 fe1 ne2 fe3 ie4 fe5 => (4, [Cx.i ie4, Cx.f fe5])
 | .L5 if0 if1 nf2 bf3 nf4 ff5 => (5, [])
 | .L7 ih0 fh1 nh2 ih3 ih4 nh5 fh6 ih7 fh8 => (7, [Cx.i ih7, Cx.f fh8])
 | .L12 im0 im1 nm2 fm3 nm4 fm5 im6 nm7 nm8 im9 im10 im11 nm12 im13 im14 fm15 => (12, [Cx.i im6, Cx.n nm7, Cx.n nm8, Cx.i im9, Cx.i im10, Cx.i im11, Cx.n nm12, Cx.i im13, Cx.i im14, Cx.f fm15])
 | .L13 in0 in1 fn2 nn3 nn4 fn5 in6 fn7 => (13, [Cx.i in6, Cx.f fn7])
 | .L14 io0 io1 no2 fo3 no4 io5 io6 no7 fo8 io9 no10 no11 io12 io13 io14 no15 io16 io17 fo18 => (14, [Cx.i io9, Cx.n no10, Cx.n no11, Cx.i io12, Cx.i io13, Cx.i io14, Cx.n no15, Cx.i io16, Cx.i io17, Cx.f fo18])
 | .L15 ip0 ip1 ip2 np3 fp4 np5 np6 fp7 ip8 np9 np10 ip11 ip12 ip13 np14 ip15 ip16 fp17 => (15, [Cx.i ip8, Cx.n np9, Cx.n np10, Cx.i ip11, Cx.i ip12, Cx.i ip13, Cx.n np14, Cx.i ip15, Cx.i ip16, Cx.f fp17])
 | .L18 is0 fs1 ns2 ns3 fs4 is5 is6 fs7 fs8 is9 fs10 => (18, [Cx.i is5, Cx.i is6, Cx.f fs7, Cx.n ns2, Cx.n ns3, Cx.f fs8, Cx.i is9, Cx.f fs10])
 | .L20 iu0 fu1 nu2 nu3 fu4 iu5 iu6 iu7 iu8 fu9 nu10 fu11 iu12 fu13 => (20, [Cx.i iu7, Cx.i iu8, Cx.f fu9, Cx.n nu10, Cx.n nu3, Cx.f fu11, Cx.i iu12, Cx.f fu13])
 | .L22 iw0 iw1 fw2 nw3 iw4 iw5 fw6 iw7 iw8 fw9 nw10 nw11 fw12 iw13 fw14 => (18, [Cx.i iw7, Cx.i iw8, Cx.f fw9, Cx.n nw10, Cx.n nw11, Cx.f fw12, Cx.i iw13, Cx.f fw14])
 | .L23 ix0 ix1 fx2 nx3 ix4 ix5 nx6 fx7 ix8 ix9 fx10 nx11 nx12 fx13 ix14 fx15 => (20, [Cx.i ix8, Cx.i ix9, Cx.f fx10, Cx.n nx11, Cx.n nx12, Cx.f fx13, Cx.i ix14, Cx.f fx15])
 | .L24 iy0 ny1 iy2 fy3 ny4 ny5 fy6 iy7 iy8 iy9 ny10 fy11 fy12 iy13 ny14 ny15 iy16 iy17 iy18 ny19 iy20 iy21 fy22 => (24, [Cx.i iy7, Cx.i iy8, Cx.i iy9, Cx.n ny10, Cx.f fy11, Cx.n ny4, Cx.n ny5, Cx.f fy12, Cx.i iy13, Cx.n ny14, Cx.n ny15, Cx.i iy16, Cx.i iy17, Cx.i iy18, Cx.n ny19, Cx.i iy20, Cx.i iy21, Cx.f fy22])
 | .L25 iz0 nz1 iz2 fz3 nz4 nz5 fz6 iz7 iz8 iz9 iz10 iz11 nz12 fz13 nz14 fz15 iz16 nz17 nz18 iz19 iz20 iz21 nz22 iz23 iz24 fz25 => (25, [Cx.i iz9, Cx.i iz10, Cx.i iz11, Cx.n nz12, Cx.f fz13, Cx.n nz14, Cx.n nz5, Cx.f fz15, Cx.i iz16, Cx.n nz17, Cx.n nz18, Cx.i iz19, Cx.i iz20, Cx.i iz21, Cx.n nz22, Cx.i iz23, Cx.i iz24, Cx.f fz25])
 | .L26 iza0 iza1 nza2 iza3 fza4 nza5 iza6 iza7 fza8 iza9 iza10 iza11 nza12 fza13 nza14 nza15 fza16 iza17 nza18 nza19 iza20 iza21 iza22 nza23 iza24 iza25 fza26 => (24, [Cx.i iza9, Cx.i iza10, Cx.i iza11, Cx.n nza12, Cx.f fza13, Cx.n nza14, Cx.n nza15, Cx.f fza16, Cx.i iza17, Cx.n nza18, Cx.n nza19, Cx.i iza20, Cx.i iza21, Cx.i iza22, Cx.n nza23, Cx.i iza24, Cx.i iza25, Cx.f fza26])
 | .L27 izb0 izb1 nzb2 izb3 fzb4 nzb5 izb6 izb7 nzb8 fzb9 izb10 izb11 izb12 nzb13 fzb14 nzb15 nzb16 fzb17 izb18 nzb19 nzb20 izb21 izb22 izb23 nzb24 izb25 izb26 fzb27 => (25, [Cx.i izb10, Cx.i izb11, Cx.i izb12, Cx.n nzb13, Cx.f fzb14, Cx.n nzb15, Cx.n nzb16, Cx.f fzb17, Cx.i izb18, Cx.n nzb19, Cx.n nzb20, Cx.i izb21, Cx.i izb22, Cx.i izb23, Cx.n nzb24, Cx.i izb25, Cx.i izb26, Cx.f fzb27])
def rl57 (x0 x1 x2 x3 x4 x5 x6 x7 : Int) (b8 : Bool) (x9 x10 x11 x12 : Int) : T (Leaf JJ) := runL JJ ctB29 u57 s57 [V.agg [vi x0, vi x1, vi x2, vi x3, vi x4, vi x5, vi x6, vi x7, V.bool b8], V.agg [vi x9, vi x10, vi x11, vi x12]]
def lp57_0 (x0 x1 x2 x3 x4 x5 x6 x7 : Int) (b8 : Bool) (x9 x10 x11 x12 : Int) (cx : List Cx) : Lp JJ := lpT (atT (rl57 x0 x1 x2 x3 x4 x5 x6 x7 b8 x9 x10 x11 x12) [false, true, true, true, true, false, true])
def lp57_1 (x0 x1 x2 x3 x4 x5 x6 x7 : Int) (b8 : Bool) (x9 x10 x11 x12 : Int) (cx : List Cx) : Lp JJ := lpT (atT (rdP ctB29 u57 (0, []) (lp57_0 x0 x1 x2 x3 x4 x5 x6 x7 b8 x9 x10 x11 x12 []) (inv57 x0 x1 x2 x3 x4 x5 x6 x7 b8 x9 x10 x11 x12 (.L0 (0 : Int) (fun _ => [])))) [true])
def lp57_2 (x0 x1 x2 x3 x4 x5 x6 x7 : Int) (b8 : Bool) (x9 x10 x11 x12 : Int) (cx : List Cx) : Lp JJ := lpT (atT (rdP ctB29 u57 (0, []) (lp57_0 x0 x1 x2 x3 x4 x5 x6 x7 b8 x9 x10 x11 x12 []) (inv57 x0 x1 x2 x3 x4 x5 x6 x7 b8 x9 x10 x11 x12 (.L0 (cxi cx 0) (cxf cx 1)))) [false, false])
def lp57_3 (x0 x1 x2 x3 x4 x5 x6 x7 : Int) (b8 : Bool) (x9 x10 x11 x12 : Int) (cx : List Cx) : Lp JJ := lpT (atT (rdP ctB29 u57 (2, [.i (cxi cx 0), .f (cxf cx 1)]) (lp57_2 x0 x1 x2 x3 x4 x5 x6 x7 b8 x9 x10 x11 x12 [.i (cxi cx 0), .f (cxf cx 1)]) (inv57 x0 x1 x2 x3 x4 x5 x6 x7 b8 x9 x10 x11 x12 (.L2 (0 : Int) (fun _ => []) (cxi cx 0) (cxf cx 1)))) [true, true])
def lp57_4 (x0 x1 x2 x3 x4 x5 x6 x7 : Int) (b8 : Bool) (x9 x10 x11 x12 : Int) (cx : List Cx) : Lp JJ := lpT (atT (rdP ctB29 u57 (2, [.i (0 : Int), .f (fun _ => [])]) (lp57_2 x0 x1 x2 x3 x4 x5 x6 x7 b8 x9 x10 x11 x12 [.i (0 : Int), .f (fun _ => [])]) (inv57 x0 x1 x2 x3 x4 x5 x6 x7 b8 x9 x10 x11 x12 (.L2 (cxi cx 0) (cxf cx 1) (0 : Int) (fun _ => [])))) [false, false])
def lp57_5 (x0 x1 x2 x3 x4 x5 x6 x7 : Int) (b8 : Bool) (x9 x10 x11 x12 : Int) (cx : List Cx) : Lp JJ := lpT (atT (rdP ctB29 u57 (3, [.i (0 : Int), .f (fun _ => [])]) (lp57_3 x0 x1 x2 x3 x4 x5 x6 x7 b8 x9 x10 x11 x12 [.i (0 : Int), .f (fun _ => [])]) (inv57 x0 x1 x2 x3 x4 x5 x6 x7 b8 x9 x10 x11 x12 (.L3 (0 : Int) 0 0 (0 : Int) (0 : Int) (0 : Int) 0 (0 : Int) (0 : Int) (fun _ => []) (0 : Int) (fun _ => [])))) [false, true])
def lp57_7 (x0 x1 x2 x3 x4 x5 x6 x7 : Int) (b8 : Bool) (x9 x10 x11 x12 : Int) (cx : List Cx) : Lp JJ := lpT (atT (rdP ctB29 u57 (4, [.i (cxi cx 0), .f (cxf cx 1)]) (lp57_4 x0 x1 x2 x3 x4 x5 x6 x7 b8 x9 x10 x11 x12 [.i (cxi cx 0), .f (cxf cx 1)]) (inv57 x0 x1 x2 x3 x4 x5 x6 x7 b8 x9 x10 x11 x12 (.L4 (0 : Int) (fun _ => []) 0 (fun _ => []) (cxi cx 0) (cxf cx 1)))) [true])
def lp57_12 (x0 x1 x2 x3 x4 x5 x6 x7 : Int) (b8 : Bool) (x9 x10 x11 x12 : Int) (cx : List Cx) : Lp JJ := lpT (atT (rdP ctB29 u57 (3, [.i (0 : Int), .f (fun _ => [])]) (lp57_3 x0 x1 x2 x3 x4 x5 x6 x7 b8 x9 x10 x11 x12 [.i (0 : Int), .f (fun _ => [])]) (inv57 x0 x1 x2 x3 x4 x5 x6 x7 b8 x9 x10 x11 x12 (.L3 (cxi cx 0) (cxn cx 1) (cxn cx 2) (cxi cx 3) (cxi cx 4) (cxi cx 5) (cxn cx 6) (cxi cx 7) (cxi cx 8) (cxf cx 9) (0 : Int) (fun _ => [])))) [false, false])
def lp57_13 (x0 x1 x2 x3 x4 x5 x6 x7 : Int) (b8 : Bool) (x9 x10 x11 x12 : Int) (cx : List Cx) : Lp JJ := lpT (atT (rdP ctB29 u57 (4, [.i (cxi cx 0), .f (cxf cx 1)]) (lp57_4 x0 x1 x2 x3 x4 x5 x6 x7 b8 x9 x10 x11 x12 [.i (cxi cx 0), .f (cxf cx 1)]) (inv57 x0 x1 x2 x3 x4 x5 x6 x7 b8 x9 x10 x11 x12 (.L4 (0 : Int) (fun _ => []) 0 (fun _ => []) (cxi cx 0) (cxf cx 1)))) [false])
def lp57_14 (x0 x1 x2 x3 x4 x5 x6 x7 : Int) (b8 : Bool) (x9 x10 x11 x12 : Int) (cx : List Cx) : Lp JJ := lpT (atT (rdP ctB29 u57 (12, [.i (cxi cx 0), .n (cxn cx 1), .n (cxn cx 2), .i (cxi cx 3), .i (cxi cx 4), .i (cxi cx 5), .n (cxn cx 6), .i (cxi cx 7), .i (cxi cx 8), .f (cxf cx 9)]) (lp57_12 x0 x1 x2 x3 x4 x5 x6 x7 b8 x9 x10 x11 x12 [.i (cxi cx 0), .n (cxn cx 1), .n (cxn cx 2), .i (cxi cx 3), .i (cxi cx 4), .i (cxi cx 5), .n (cxn cx 6), .i (cxi cx 7), .i (cxi cx 8), .f (cxf cx 9)]) (inv57 x0 x1 x2 x3 x4 x5 x6 x7 b8 x9 x10 x11 x12 (.L12 (0 : Int) (0 : Int) 0 (fun _ => []) 0 (fun _ => []) (cxi cx 0) (cxn cx 1) (cxn cx 2) (cxi cx 3) (cxi cx 4) (cxi cx 5) (cxn cx 6) (cxi cx 7) (cxi cx 8) (cxf cx 9)))) [true])
def lp57_15 (x0 x1 x2 x3 x4 x5 x6 x7 : Int) (b8 : Bool) (x9 x10 x11 x12 : Int) (cx : List Cx) : Lp JJ := lpT (atT (rdP ctB29 u57 (12, [.i (cxi cx 0), .n (cxn cx 1), .n (cxn cx 2), .i (cxi cx 3), .i (cxi cx 4), .i (cxi cx 5), .n (cxn cx 6), .i (cxi cx 7), .i (cxi cx 8), .f (cxf cx 9)]) (lp57_12 x0 x1 x2 x3 x4 x5 x6 x7 b8 x9 x10 x11 x12 [.i (cxi cx 0), .n (cxn cx 1), .n (cxn cx 2), .i (cxi cx 3), .i (cxi cx 4), .i (cxi cx 5), .n (cxn cx 6), .i (cxi cx 7), .i (cxi cx 8), .f (cxf cx 9)]) (inv57 x0 x1 x2 x3 x4 x5 x6 x7 b8 x9 x10 x11 x12 (.L12 (0 : Int) (0 : Int) 0 (fun _ => []) 0 (fun _ => []) (cxi cx 0) (cxn cx 1) (cxn cx 2) (cxi cx 3) (cxi cx 4) (cxi cx 5) (cxn cx 6) (cxi cx 7) (cxi cx 8) (cxf cx 9)))) [false])
def lp57_18 (x0 x1 x2 x3 x4 x5 x6 x7 : Int) (b8 : Bool) (x9 x10 x11 x12 : Int) (cx : List Cx) : Lp JJ := lpT (atT (rdP ctB29 u57 (13, [.i (cxi cx 6), .f (cxf cx 7)]) (lp57_13 x0 x1 x2 x3 x4 x5 x6 x7 b8 x9 x10 x11 x12 [.i (cxi cx 6), .f (cxf cx 7)]) (inv57 x0 x1 x2 x3 x4 x5 x6 x7 b8 x9 x10 x11 x12 (.L13 (cxi cx 0) (cxi cx 1) (cxf cx 2) (cxn cx 3) (cxn cx 4) (cxf cx 5) (cxi cx 6) (cxf cx 7)))) [false])
def lp57_20 (x0 x1 x2 x3 x4 x5 x6 x7 : Int) (b8 : Bool) (x9 x10 x11 x12 : Int) (cx : List Cx) : Lp JJ := lpT (atT (rdP ctB29 u57 (18, [.i (cxi cx 0), .i (cxi cx 1), .f (cxf cx 2), .n (cxn cx 3), .n (cxn cx 4), .f (cxf cx 5), .i (cxi cx 6), .f (cxf cx 7)]) (lp57_18 x0 x1 x2 x3 x4 x5 x6 x7 b8 x9 x10 x11 x12 [.i (cxi cx 0), .i (cxi cx 1), .f (cxf cx 2), .n (cxn cx 3), .n (cxn cx 4), .f (cxf cx 5), .i (cxi cx 6), .f (cxf cx 7)]) (inv57 x0 x1 x2 x3 x4 x5 x6 x7 b8 x9 x10 x11 x12 (.L18 (0 : Int) (fun _ => []) (cxn cx 3) (cxn cx 4) (fun _ => []) (cxi cx 0) (cxi cx 1) (cxf cx 2) (cxf cx 5) (cxi cx 6) (cxf cx 7)))) [true])
def lp57_24 (x0 x1 x2 x3 x4 x5 x6 x7 : Int) (b8 : Bool) (x9 x10 x11 x12 : Int) (cx : List Cx) : Lp JJ := lpT (atT (rdP ctB29 u57 (15, [.i (cxi cx 8), .n (cxn cx 9), .n (cxn cx 10), .i (cxi cx 11), .i (cxi cx 12), .i (cxi cx 13), .n (cxn cx 14), .i (cxi cx 15), .i (cxi cx 16), .f (cxf cx 17)]) (lp57_15 x0 x1 x2 x3 x4 x5 x6 x7 b8 x9 x10 x11 x12 [.i (cxi cx 8), .n (cxn cx 9), .n (cxn cx 10), .i (cxi cx 11), .i (cxi cx 12), .i (cxi cx 13), .n (cxn cx 14), .i (cxi cx 15), .i (cxi cx 16), .f (cxf cx 17)]) (inv57 x0 x1 x2 x3 x4 x5 x6 x7 b8 x9 x10 x11 x12 (.L15 (cxi cx 0) (cxi cx 1) (cxi cx 2) (cxn cx 3) (cxf cx 4) (cxn cx 5) (cxn cx 6) (cxf cx 7) (cxi cx 8) (cxn cx 9) (cxn cx 10) (cxi cx 11) (cxi cx 12) (cxi cx 13) (cxn cx 14) (cxi cx 15) (cxi cx 16) (cxf cx 17)))) [false])
def lp57_25 (x0 x1 x2 x3 x4 x5 x6 x7 : Int) (b8 : Bool) (x9 x10 x11 x12 : Int) (cx : List Cx) : Lp JJ := lpT (atT (rdP ctB29 u57 (24, [.i (cxi cx 0), .i (cxi cx 1), .i (cxi cx 2), .n (cxn cx 3), .f (cxf cx 4), .n (cxn cx 5), .n (cxn cx 6), .f (cxf cx 7), .i (cxi cx 8), .n (cxn cx 9), .n (cxn cx 10), .i (cxi cx 11), .i (cxi cx 12), .i (cxi cx 13), .n (cxn cx 14), .i (cxi cx 15), .i (cxi cx 16), .f (cxf cx 17)]) (lp57_24 x0 x1 x2 x3 x4 x5 x6 x7 b8 x9 x10 x11 x12 [.i (cxi cx 0), .i (cxi cx 1), .i (cxi cx 2), .n (cxn cx 3), .f (cxf cx 4), .n (cxn cx 5), .n (cxn cx 6), .f (cxf cx 7), .i (cxi cx 8), .n (cxn cx 9), .n (cxn cx 10), .i (cxi cx 11), .i (cxi cx 12), .i (cxi cx 13), .n (cxn cx 14), .i (cxi cx 15), .i (cxi cx 16), .f (cxf cx 17)]) (inv57 x0 x1 x2 x3 x4 x5 x6 x7 b8 x9 x10 x11 x12 (.L24 (0 : Int) 0 (0 : Int) (fun _ => []) (cxn cx 5) (cxn cx 6) (fun _ => []) (cxi cx 0) (cxi cx 1) (cxi cx 2) (cxn cx 3) (cxf cx 4) (cxf cx 7) (cxi cx 8) (cxn cx 9) (cxn cx 10) (cxi cx 11) (cxi cx 12) (cxi cx 13) (cxn cx 14) (cxi cx 15) (cxi cx 16) (cxf cx 17)))) [true])
def lp57 (x0 x1 x2 x3 x4 x5 x6 x7 : Int) (b8 : Bool) (x9 x10 x11 x12 : Int) : JJ -> Lp JJ
 | (0, cx) => lp57_0 x0 x1 x2 x3 x4 x5 x6 x7 b8 x9 x10 x11 x12 cx
 | (1, cx) => lp57_1 x0 x1 x2 x3 x4 x5 x6 x7 b8 x9 x10 x11 x12 cx
 | (2, cx) => lp57_2 x0 x1 x2 x3 x4 x5 x6 x7 b8 x9 x10 x11 x12 cx
 | (3, cx) => lp57_3 x0 x1 x2 x3 x4 x5 x6 x7 b8 x9 x10 x11 x12 cx
 | (4, cx) => lp57_4 x0 x1 x2 x3 x4 x5 x6 x7 b8 x9 x10 x11 x12 cx
 | (5, cx) => lp57_5 x0 x1 x2 x3 x4 x5 x6 x7 b8 x9 x10 x11 x12 cx
 | (7, cx) => lp57_7 x0 x1 x2 x3 x4 x5 x6 x7 b8 x9 x10 x11 x12 cx
 | (12, cx) => lp57_12 x0 x1 x2 x3 x4 x5 x6 x7 b8 x9 x10 x11 x12 cx
 | (13, cx) => lp57_13 x0 x1 x2 x3 x4 x5 x6 x7 b8 x9 x10 x11 x12 cx
 | (14, cx) => lp57_14 x0 x1 x2 x3 x4 x5 x6 x7 b8 x9 x10 x11 x12 cx
 | (15, cx) => lp57_15 x0 x1 x2 x3 x4 x5 x6 x7 b8 x9 x10 x11 x12 cx
 | (18, cx) => lp57_18 x0 x1 x2 x3 x4 x5 x6 x7 b8 x9 x10 x11 x12 cx
 | (20, cx) => lp57_20 x0 x1 x2 x3 x4 x5 x6 x7 b8 x9 x10 x11 x12 cx
 | (24, cx) => lp57_24 x0 x1 x2 x3 x4 x5 x6 x7 b8 x9 x10 x11 x12 cx
 | (25, cx) => lp57_25 x0 x1 x2 x3 x4 x5 x6 x7 b8 x9 x10 x11 x12 cx
 | (_, cx) => lp57_0 x0 x1 x2 x3 x4 x5 x6 x7 b8 x9 x10 x11 x12 cx
def D57 (x0 x1 x2 x3 x4 x5 x6 x7 : Int) (b8 : Bool) (x9 x10 x11 x12 : Int) : LD JJ S57 := ⟨id57, lp57 x0 x1 x2 x3 x4 x5 x6 x7 b8 x9 x10 x11 x12, inv57 x0 x1 x2 x3 x4 x5 x6 x7 b8 x9 x10 x11 x12⟩
def st57 (x0 x1 x2 x3 x4 x5 x6 x7 : Int) (b8 : Bool) (x9 x10 x11 x12 : Int) : S57 -> RT S57
 | .L0 ia0 fa1 => .br (decide (ia0 < (↑8 : Int))) (.enter (iR 0 14 []) (S57.L1 (ia0) (ia0) (elV tp2 fa1)) [⟨13, tp2, 8, elV tp2 fa1, vf_view rfl _ _⟩]) (.brf (.enter (iR 0 14 []) (S57.L2 (1) (elV tp2 fa1) (ia0) (fa1)) [⟨13, tp2, 8, elV tp2 fa1, vf_view rfl _ _⟩]))
 | .L1 ib0 ib1 fb2 => .obi (.obi (.obj (decide (0 < ib0)) (decide (0 <= ib0 /\ ib0 < (↑8 : Int) /\ 8 <= 8)) (.obi (.obj (decide (0 < ib0)) (decide (ib0.toNat < 8)) (.obi (.obi (.obi (.obj (decide (0 < ib0)) (decide (0 <= i64.wrap (ib0 - 1) /\ i64.wrap (ib0 - 1) < (↑8 : Int) /\ 8 <= 8)) (.obi (.obj (decide (0 < ib0)) (decide ((i64.wrap (ib0 - 1)).toNat < 8)) (.br (decide (0 < ib0)) (.ob (decide (0 < ib0)) (.ob (decide (0 < ib0)) (.ob (decide (0 < ib0)) (.obc (.obt (.br (decide (F140_0 (jv0 (fb2 ib0.toNat)) (jv1 (fb2 ib0.toNat)) (jv0 (fb2 (i64.wrap (ib0 - 1)).toNat)) (jv1 (fb2 (i64.wrap (ib0 - 1)).toNat)) < 0)) (.ob (decide (0 <= i64.wrap (ib0 - 1) /\ i64.wrap (ib0 - 1) < (↑8 : Int) /\ 8 <= 8)) (.ob (decide ((i64.wrap (ib0 - 1)).toNat < 8)) (.ob (decide (0 <= ib0 /\ ib0 < (↑8 : Int) /\ 8 <= 8)) (.ob (decide (ib0.toNat < 8)) (.ob (decide (0 <= ib0 /\ ib0 < (↑8 : Int) /\ 8 <= 8)) (.ob (decide (ib0.toNat < 8)) (.ob (decide (0 <= i64.wrap (ib0 - 1) /\ i64.wrap (ib0 - 1) < (↑8 : Int) /\ 8 <= 8)) (.ob (decide ((i64.wrap (ib0 - 1)).toNat < 8)) (.next (iR 0 14 []) (S57.L1 (i64.wrap (ib0 - 1)) (ib1) (fun i' => bif i'.beq (i64.wrap (ib0 - 1)).toNat then [vi (jv0 (fb2 ib0.toNat)), vi (jv1 (fb2 ib0.toNat))] else bif i'.beq ib0.toNat then [vi (jv0 (fb2 (i64.wrap (ib0 - 1)).toNat)), vi (jv1 (fb2 (i64.wrap (ib0 - 1)).toNat))] else elV tp2 fb2 i')) [⟨13, tp2, 8, fun i' => bif i'.beq (i64.wrap (ib0 - 1)).toNat then [vi (jv0 (fb2 ib0.toNat)), vi (jv1 (fb2 ib0.toNat))] else bif i'.beq ib0.toNat then [vi (jv0 (fb2 (i64.wrap (ib0 - 1)).toNat)), vi (jv1 (fb2 (i64.wrap (ib0 - 1)).toNat))] else elV tp2 fb2 i', vf_set rfl (vf_set rfl (vf_view rfl _ _) rfl) rfl⟩]))))))))) (.next (iR 0 14 []) (S57.L0 (i64.wrap (ib1 + 1)) (elV tp2 fb2)) [⟨13, tp2, 8, elV tp2 fb2, vf_view rfl _ _⟩]))))))) (.next (iR 0 14 []) (S57.L0 (i64.wrap (ib1 + 1)) (elV tp2 fb2)) [⟨13, tp2, 8, elV tp2 fb2, vf_view rfl _ _⟩]))))))))))))
 | .L2 ic0 fc1 ic2 fc3 => .br (decide (ic0 < (↑8 : Int))) (.ob (decide (0 <= ic0 /\ ic0 < (↑8 : Int) /\ 8 <= 8)) (.ob (decide (ic0.toNat < 8)) (.ob (decide (0 <= i64.wrap (ic0 - 1) /\ i64.wrap (ic0 - 1) < (↑8 : Int) /\ 8 <= 8)) (.ob (decide ((i64.wrap (ic0 - 1)).toNat < 8)) (.br (jv0 (fc1 ic0.toNat) == jv0 (fc1 (i64.wrap (ic0 - 1)).toNat) && (jv1 (fc1 ic0.toNat) == jv1 (fc1 (i64.wrap (ic0 - 1)).toNat) && true)) (.ob (decide (0 <= ic0 /\ ic0 <= (↑8 : Int))) (.enter (iR 0 14 []) (S57.L3 (1) (ic0.toNat) (8 - ic0.toNat) (ic0) (jv0 (fc1 (i64.wrap (ic0 - 1)).toNat)) (jv1 (fc1 (i64.wrap (ic0 - 1)).toNat)) ((i64.wrap (ic0 - 1)).toNat) (i64.wrap (ic0 - 1)) (ic0) (elV tp2 fc1) (ic2) (fc3)) [⟨13, tp2, 8, elV tp2 fc1, vf_view rfl _ _⟩])) (.next (iR 0 14 []) (S57.L2 (i64.wrap (ic0 + 1)) (elV tp2 fc1) (ic2) (fc3)) [⟨13, tp2, 8, elV tp2 fc1, vf_view rfl _ _⟩])))))) (.brf (.enter (iR 0 15 [some none]) (S57.L4 (0) (elV tp2 fc1) (0) (fun i => []) (ic0) (fc1)) [⟨13, tp2, 8, elV tp2 fc1, vf_view rfl _ _⟩]))
 | .L3 id0 nd1 nd2 id3 id4 id5 nd6 id7 id8 fd9 id10 fd11 => .br (decide (id0 < (↑nd2 : Int))) (.ob (decide (0 <= id0 /\ id0 < (↑nd2 : Int) /\ nd1 + nd2 <= 8)) (.ob (decide (nd1 + id0.toNat < 8)) (.ob (decide (0 <= i64.wrap (id0 - 1) /\ i64.wrap (id0 - 1) < (↑nd2 : Int) /\ nd1 + nd2 <= 8)) (.ob (decide (nd1 + (i64.wrap (id0 - 1)).toNat < 8)) (.br (!(jv0 (fd9 (nd1 + id0.toNat)) == jv0 (fd9 (nd1 + (i64.wrap (id0 - 1)).toNat)) && (jv1 (fd9 (nd1 + id0.toNat)) == jv1 (fd9 (nd1 + (i64.wrap (id0 - 1)).toNat)) && true))) (.ob (decide (0 <= id0 /\ id0 < (↑nd2 : Int) /\ nd1 + nd2 <= 8)) (.ob (decide (nd1 + id0.toNat < 8)) (.ob (decide (0 <= id8 /\ id8 < (↑8 : Int) /\ 8 <= 8)) (.ob (decide (id8.toNat < 8)) (.next (iR 0 14 []) (S57.L3 (i64.wrap (id0 + 1)) (nd1) (nd2) (id3) (id4) (id5) (nd6) (id7) (i64.wrap (id8 + 1)) (fun i' => bif i'.beq id8.toNat then [vi (jv0 (fd9 (nd1 + id0.toNat))), vi (jv1 (fd9 (nd1 + id0.toNat)))] else elV tp2 fd9 i') (id10) (fd11)) [⟨13, tp2, 8, fun i' => bif i'.beq id8.toNat then [vi (jv0 (fd9 (nd1 + id0.toNat))), vi (jv1 (fd9 (nd1 + id0.toNat)))] else elV tp2 fd9 i', vf_set rfl (vf_view rfl _ _) rfl⟩]))))) (.next (iR 0 14 []) (S57.L3 (i64.wrap (id0 + 1)) (nd1) (nd2) (id3) (id4) (id5) (nd6) (id7) (id8) (elV tp2 fd9) (id10) (fd11)) [⟨13, tp2, 8, elV tp2 fd9, vf_view rfl _ _⟩])))))) (.ob (decide (0 <= id8 /\ id8 <= (↑8 : Int))) (.ob (decide (0 < 8 - id8.toNat /\ id8.toNat + (8 - id8.toNat) <= 8)) (.ob (decide (0 <= id8 /\ id8 <= (↑8 : Int))) (.br (decide ((↑id8.toNat : Int) < 3)) (.enter [some (some 13), some (some 0)] (S57.L5 (0) ((↑id8.toNat : Int)) (id8.toNat) (decide (2 < (↑id8.toNat : Int))) (8) (fun i => bif id8.toNat.ble i && i.succ.ble (id8.toNat + (8 - id8.toNat)) then [vi 0, vi 0] else elV tp2 fd9 i)) [⟨0, tp2, 8, fun i => bif id8.toNat.ble i && i.succ.ble (id8.toNat + (8 - id8.toNat)) then [vi 0, vi 0] else elV tp2 fd9 i, vf_if rfl (vf_view rfl _ _) rfl⟩]) (.enter (iR 0 15 [some none]) (S57.L12 (0) ((↑id8.toNat : Int)) (id8.toNat) (fun i => bif id8.toNat.ble i && i.succ.ble (id8.toNat + (8 - id8.toNat)) then [vi 0, vi 0] else elV tp2 fd9 i) (0) (fun i => []) (id0) (nd1) (nd2) (id3) (id4) (id5) (nd6) (id7) (id8) (fd9)) [⟨13, tp2, 8, fun i => bif id8.toNat.ble i && i.succ.ble (id8.toNat + (8 - id8.toNat)) then [vi 0, vi 0] else elV tp2 fd9 i, vf_if rfl (vf_view rfl _ _) rfl⟩])))))
 | .L4 ie0 fe1 ne2 fe3 ie4 fe5 => .br (decide (ie0 < (↑8 : Int))) (.ob (decide (0 <= ie0 /\ ie0 < (↑8 : Int) /\ 8 <= 8)) (.ob (decide (ie0.toNat < 8)) (.enter (iR 0 15 [some (some 16), some (some 15)]) (S57.L7 (ie0) (elV tp2 fe1) (ne2) (jv0 (fe1 ie0.toNat)) (jv1 (fe1 ie0.toNat)) (ne2) (elV tp2 fe3) (ie4) (fe5)) [⟨13, tp2, 8, elV tp2 fe1, vf_view rfl _ _⟩, ⟨16, tp2, ne2, elV tp2 fe3, vf_view rfl _ _⟩]))) (.ob (decide (0 <= i64.wrap ((↑ne2 : Int) - 1) /\ i64.wrap ((↑ne2 : Int) - 1) <= (↑ne2 : Int))) (.enter (iR 0 16 []) (S57.L13 (i64.wrap ((↑8 : Int) - 1)) (0) (elV tp2 fe1) ((i64.wrap ((↑ne2 : Int) - 1)).toNat) (ne2) (elV tp2 fe3) (ie4) (fe5)) [⟨13, tp2, 8, elV tp2 fe1, vf_view rfl _ _⟩, ⟨15, tp2, ne2, elV tp2 fe3, vf_view rfl _ _⟩]))
 | .L5 if0 if1 nf2 bf3 nf4 ff5 => .br (decide (if0 < if1)) (.ob (decide (0 <= if0 /\ if0 < (↑nf2 : Int) /\ nf2 <= nf4)) (.ob (decide (if0.toNat < nf4)) (.ob (decide ((↑nf2 : Int) ≠ 0)) (.ob (decide (0 <= (i64.wrap (if0 + 1)).tmod (↑nf2 : Int) /\ (i64.wrap (if0 + 1)).tmod (↑nf2 : Int) < (↑nf2 : Int) /\ nf2 <= nf4)) (.ob (decide (((i64.wrap (if0 + 1)).tmod (↑nf2 : Int)).toNat < nf4)) (.obc (.obt (.br (F103_0 (jv0 (ff5 if0.toNat)) (jv1 (ff5 if0.toNat)) (jv0 (ff5 ((i64.wrap (if0 + 1)).tmod (↑nf2 : Int)).toNat)) (jv1 (ff5 ((i64.wrap (if0 + 1)).tmod (↑nf2 : Int)).toNat)) x5 x6 x7) (.ret (V.kb true)) (.obi (.br (bf3) (.ob (bf3) (.ob (bf3) (.obc (.obt (.next [some (some 0), some (some 1)] (S57.L5 (i64.wrap (if0 + 1)) (if1) (nf2) (decide (0 < F78_0 (jv0 (ff5 if0.toNat)) (jv1 (ff5 if0.toNat)) (jv0 (ff5 ((i64.wrap (if0 + 1)).tmod (↑nf2 : Int)).toNat)) (jv1 (ff5 ((i64.wrap (if0 + 1)).tmod (↑nf2 : Int)).toNat)) x5 x6)) (nf4) (elV tp2 ff5)) [⟨0, tp2, nf4, elV tp2 ff5, vf_view rfl _ _⟩]))))) (.next [some (some 0), some (some 1)] (S57.L5 (i64.wrap (if0 + 1)) (if1) (nf2) (false) (nf4) (elV tp2 ff5)) [⟨0, tp2, nf4, elV tp2 ff5, vf_view rfl _ _⟩]))))))))))) (.ret (V.bool bf3))
 | .L7 ih0 fh1 nh2 ih3 ih4 nh5 fh6 ih7 fh8 => .obi (.obi (.obi (.obi (.obj (decide (i64.wrap (0 + 1) < (↑nh2 : Int))) (decide (0 <= i64.wrap ((↑nh2 : Int) - 2) /\ i64.wrap ((↑nh2 : Int) - 2) < (↑nh2 : Int) /\ nh2 <= nh5)) (.obi (.obj (decide (i64.wrap (0 + 1) < (↑nh2 : Int))) (decide ((i64.wrap ((↑nh2 : Int) - 2)).toNat < nh5)) (.obi (.obi (.obi (.obi (.obj (decide (i64.wrap (0 + 1) < (↑nh2 : Int))) (decide (0 <= i64.wrap ((↑nh2 : Int) - 1) /\ i64.wrap ((↑nh2 : Int) - 1) < (↑nh2 : Int) /\ nh2 <= nh5)) (.obi (.obj (decide (i64.wrap (0 + 1) < (↑nh2 : Int))) (decide ((i64.wrap ((↑nh2 : Int) - 1)).toNat < nh5)) (.obi (.obi (.br (decide (i64.wrap (0 + 1) < (↑nh2 : Int))) (.ob (decide (i64.wrap (0 + 1) < (↑nh2 : Int))) (.ob (decide (i64.wrap (0 + 1) < (↑nh2 : Int))) (.obc (.obt (.br (decide (F78_0 (jv0 (fh6 (i64.wrap ((↑nh2 : Int) - 2)).toNat)) (jv1 (fh6 (i64.wrap ((↑nh2 : Int) - 2)).toNat)) (jv0 (fh6 (i64.wrap ((↑nh2 : Int) - 1)).toNat)) (jv1 (fh6 (i64.wrap ((↑nh2 : Int) - 1)).toNat)) ih3 ih4 <= 0)) (.ob (decide (0 <= i64.wrap ((↑nh2 : Int) - 1) /\ i64.wrap ((↑nh2 : Int) - 1) <= (↑nh2 : Int))) (.next (iR 0 17 []) (S57.L7 (ih0) (elV tp2 fh1) ((i64.wrap ((↑nh2 : Int) - 1)).toNat) (ih3) (ih4) (nh5) (elV tp2 fh6) (ih7) (fh8)) [⟨13, tp2, 8, elV tp2 fh1, vf_view rfl _ _⟩, ⟨16, tp2, nh5, elV tp2 fh6, vf_view rfl _ _⟩])) (.obt (.ob (decide (nh2 <= nh5 /\ (nh2 + 1) * 16 <= 140737488355328) && !Nat.beq 16 0) (.next (iR 0 15 [some (some 18)]) (S57.L4 (i64.wrap (ih0 + 1)) (elV tp2 fh1) (nh2 + 1) (joinF nh2 (elV tp2 fh6) fun x => [vi ih3, vi ih4]) (ih7) (fh8)) [⟨13, tp2, 8, elV tp2 fh1, vf_view rfl _ _⟩, ⟨15, tp2, nh2 + 1, joinF nh2 (elV tp2 fh6) fun x => [vi ih3, vi ih4], vf_join (vf_view rfl _ _) (vf_const rfl _ rfl)⟩])))))))) (.obt (.ob (decide (nh2 <= nh5 /\ (nh2 + 1) * 16 <= 140737488355328) && !Nat.beq 16 0) (.next (iR 0 15 [some (some 18)]) (S57.L4 (i64.wrap (ih0 + 1)) (elV tp2 fh1) (nh2 + 1) (joinF nh2 (elV tp2 fh6) fun x => [vi ih3, vi ih4]) (ih7) (fh8)) [⟨13, tp2, 8, elV tp2 fh1, vf_view rfl _ _⟩, ⟨15, tp2, nh2 + 1, joinF nh2 (elV tp2 fh6) fun x => [vi ih3, vi ih4], vf_join (vf_view rfl _ _) (vf_const rfl _ rfl)⟩])))))))))))))))))))
 | .L12 im0 im1 nm2 fm3 nm4 fm5 im6 nm7 nm8 im9 im10 im11 nm12 im13 im14 fm15 => .br (decide (im0 < im1)) (.ob (decide (0 <= im0 /\ im0 < (↑nm2 : Int) /\ nm2 <= 8)) (.ob (decide (im0.toNat < 8)) (.enter (iR 0 15 [some (some 16), some (some 15)]) (S57.L14 (im0) (im1) (nm2) (elV tp2 fm3) (nm4) (jv0 (fm3 im0.toNat)) (jv1 (fm3 im0.toNat)) (nm4) (elV tp2 fm5) (im6) (nm7) (nm8) (im9) (im10) (im11) (nm12) (im13) (im14) (fm15)) [⟨13, tp2, 8, elV tp2 fm3, vf_view rfl _ _⟩, ⟨16, tp2, nm4, elV tp2 fm5, vf_view rfl _ _⟩]))) (.ob (decide (0 <= i64.wrap ((↑nm4 : Int) - 1) /\ i64.wrap ((↑nm4 : Int) - 1) <= (↑nm4 : Int))) (.enter (iR 0 16 []) (S57.L15 (i64.wrap ((↑im14.toNat : Int) - 1)) (0) ((↑im14.toNat : Int)) (im14.toNat) (elV tp2 fm3) ((i64.wrap ((↑nm4 : Int) - 1)).toNat) (nm4) (elV tp2 fm5) (im6) (nm7) (nm8) (im9) (im10) (im11) (nm12) (im13) (im14) (fm15)) [⟨13, tp2, 8, elV tp2 fm3, vf_view rfl _ _⟩, ⟨15, tp2, nm4, elV tp2 fm5, vf_view rfl _ _⟩]))
 | .L13 in0 in1 fn2 nn3 nn4 fn5 in6 fn7 => .br (decide (in1 < in0)) (.ob (decide (0 <= in0 /\ in0 < (↑8 : Int) /\ 8 <= 8)) (.ob (decide (in0.toNat < 8)) (.ob (decide (0 <= in1 /\ in1 < (↑8 : Int) /\ 8 <= 8)) (.ob (decide (in1.toNat < 8)) (.ob (decide (0 <= in1 /\ in1 < (↑8 : Int) /\ 8 <= 8)) (.ob (decide (in1.toNat < 8)) (.ob (decide (0 <= in0 /\ in0 < (↑8 : Int) /\ 8 <= 8)) (.ob (decide (in0.toNat < 8)) (.next (iR 0 16 []) (S57.L13 (i64.wrap (in0 - 1)) (i64.wrap (in1 + 1)) (fun i' => bif i'.beq in0.toNat then [vi (jv0 (fn2 in1.toNat)), vi (jv1 (fn2 in1.toNat))] else bif i'.beq in1.toNat then [vi (jv0 (fn2 in0.toNat)), vi (jv1 (fn2 in0.toNat))] else elV tp2 fn2 i') (nn3) (nn4) (elV tp2 fn5) (in6) (fn7)) [⟨13, tp2, 8, fun i' => bif i'.beq in0.toNat then [vi (jv0 (fn2 in1.toNat)), vi (jv1 (fn2 in1.toNat))] else bif i'.beq in1.toNat then [vi (jv0 (fn2 in0.toNat)), vi (jv1 (fn2 in0.toNat))] else elV tp2 fn2 i', vf_set rfl (vf_set rfl (vf_view rfl _ _) rfl) rfl⟩, ⟨15, tp2, nn4, elV tp2 fn5, vf_view rfl _ _⟩]))))))))) (.enter (iR 0 16 []) (S57.L18 ((↑nn3 : Int)) (elV tp2 fn2) (nn3) (nn4) (elV tp2 fn5) (in0) (in1) (fn2) (fn5) (in6) (fn7)) [⟨13, tp2, 8, elV tp2 fn2, vf_view rfl _ _⟩, ⟨15, tp2, nn4, elV tp2 fn5, vf_view rfl _ _⟩])
 | .L14 io0 io1 no2 fo3 no4 io5 io6 no7 fo8 io9 no10 no11 io12 io13 io14 no15 io16 io17 fo18 => .obi (.obi (.obi (.obi (.obj (decide (i64.wrap (0 + 1) < (↑no4 : Int))) (decide (0 <= i64.wrap ((↑no4 : Int) - 2) /\ i64.wrap ((↑no4 : Int) - 2) < (↑no4 : Int) /\ no4 <= no7)) (.obi (.obj (decide (i64.wrap (0 + 1) < (↑no4 : Int))) (decide ((i64.wrap ((↑no4 : Int) - 2)).toNat < no7)) (.obi (.obi (.obi (.obi (.obj (decide (i64.wrap (0 + 1) < (↑no4 : Int))) (decide (0 <= i64.wrap ((↑no4 : Int) - 1) /\ i64.wrap ((↑no4 : Int) - 1) < (↑no4 : Int) /\ no4 <= no7)) (.obi (.obj (decide (i64.wrap (0 + 1) < (↑no4 : Int))) (decide ((i64.wrap ((↑no4 : Int) - 1)).toNat < no7)) (.obi (.obi (.br (decide (i64.wrap (0 + 1) < (↑no4 : Int))) (.ob (decide (i64.wrap (0 + 1) < (↑no4 : Int))) (.ob (decide (i64.wrap (0 + 1) < (↑no4 : Int))) (.obc (.obt (.br (decide (F78_0 (jv0 (fo8 (i64.wrap ((↑no4 : Int) - 2)).toNat)) (jv1 (fo8 (i64.wrap ((↑no4 : Int) - 2)).toNat)) (jv0 (fo8 (i64.wrap ((↑no4 : Int) - 1)).toNat)) (jv1 (fo8 (i64.wrap ((↑no4 : Int) - 1)).toNat)) io5 io6 <= 0)) (.ob (decide (0 <= i64.wrap ((↑no4 : Int) - 1) /\ i64.wrap ((↑no4 : Int) - 1) <= (↑no4 : Int))) (.next (iR 0 17 []) (S57.L14 (io0) (io1) (no2) (elV tp2 fo3) ((i64.wrap ((↑no4 : Int) - 1)).toNat) (io5) (io6) (no7) (elV tp2 fo8) (io9) (no10) (no11) (io12) (io13) (io14) (no15) (io16) (io17) (fo18)) [⟨13, tp2, 8, elV tp2 fo3, vf_view rfl _ _⟩, ⟨16, tp2, no7, elV tp2 fo8, vf_view rfl _ _⟩])) (.obt (.ob (decide (no4 <= no7 /\ (no4 + 1) * 16 <= 140737488355328) && !Nat.beq 16 0) (.next (iR 0 15 [some (some 18)]) (S57.L12 (i64.wrap (io0 + 1)) (io1) (no2) (elV tp2 fo3) (no4 + 1) (joinF no4 (elV tp2 fo8) fun x => [vi io5, vi io6]) (io9) (no10) (no11) (io12) (io13) (io14) (no15) (io16) (io17) (fo18)) [⟨13, tp2, 8, elV tp2 fo3, vf_view rfl _ _⟩, ⟨15, tp2, no4 + 1, joinF no4 (elV tp2 fo8) fun x => [vi io5, vi io6], vf_join (vf_view rfl _ _) (vf_const rfl _ rfl)⟩])))))))) (.obt (.ob (decide (no4 <= no7 /\ (no4 + 1) * 16 <= 140737488355328) && !Nat.beq 16 0) (.next (iR 0 15 [some (some 18)]) (S57.L12 (i64.wrap (io0 + 1)) (io1) (no2) (elV tp2 fo3) (no4 + 1) (joinF no4 (elV tp2 fo8) fun x => [vi io5, vi io6]) (io9) (no10) (no11) (io12) (io13) (io14) (no15) (io16) (io17) (fo18)) [⟨13, tp2, 8, elV tp2 fo3, vf_view rfl _ _⟩, ⟨15, tp2, no4 + 1, joinF no4 (elV tp2 fo8) fun x => [vi io5, vi io6], vf_join (vf_view rfl _ _) (vf_const rfl _ rfl)⟩])))))))))))))))))))
 | .L15 ip0 ip1 ip2 np3 fp4 np5 np6 fp7 ip8 np9 np10 ip11 ip12 ip13 np14 ip15 ip16 fp17 => .br (decide (ip1 < ip0)) (.ob (decide (0 <= ip0 /\ ip0 < (↑np3 : Int) /\ np3 <= 8)) (.ob (decide (ip0.toNat < 8)) (.ob (decide (0 <= ip1 /\ ip1 < (↑np3 : Int) /\ np3 <= 8)) (.ob (decide (ip1.toNat < 8)) (.ob (decide (0 <= ip1 /\ ip1 < (↑np3 : Int) /\ np3 <= 8)) (.ob (decide (ip1.toNat < 8)) (.ob (decide (0 <= ip0 /\ ip0 < (↑np3 : Int) /\ np3 <= 8)) (.ob (decide (ip0.toNat < 8)) (.next (iR 0 16 []) (S57.L15 (i64.wrap (ip0 - 1)) (i64.wrap (ip1 + 1)) (ip2) (np3) (fun i' => bif i'.beq ip0.toNat then [vi (jv0 (fp4 ip1.toNat)), vi (jv1 (fp4 ip1.toNat))] else bif i'.beq ip1.toNat then [vi (jv0 (fp4 ip0.toNat)), vi (jv1 (fp4 ip0.toNat))] else elV tp2 fp4 i') (np5) (np6) (elV tp2 fp7) (ip8) (np9) (np10) (ip11) (ip12) (ip13) (np14) (ip15) (ip16) (fp17)) [⟨13, tp2, 8, fun i' => bif i'.beq ip0.toNat then [vi (jv0 (fp4 ip1.toNat)), vi (jv1 (fp4 ip1.toNat))] else bif i'.beq ip1.toNat then [vi (jv0 (fp4 ip0.toNat)), vi (jv1 (fp4 ip0.toNat))] else elV tp2 fp4 i', vf_set rfl (vf_set rfl (vf_view rfl _ _) rfl) rfl⟩, ⟨15, tp2, np6, elV tp2 fp7, vf_view rfl _ _⟩]))))))))) (.enter (iR 0 16 []) (S57.L24 ((↑ip16.toNat : Int)) (ip16.toNat) ((↑np5 : Int)) (elV tp2 fp4) (np5) (np6) (elV tp2 fp7) (ip0) (ip1) (ip2) (np3) (fp4) (fp7) (ip8) (np9) (np10) (ip11) (ip12) (ip13) (np14) (ip15) (ip16) (fp17)) [⟨13, tp2, 8, elV tp2 fp4, vf_view rfl _ _⟩, ⟨15, tp2, np6, elV tp2 fp7, vf_view rfl _ _⟩])
 | .L18 is0 fs1 ns2 ns3 fs4 is5 is6 fs7 fs8 is9 fs10 => .brt (.obt (.obt (.enter (iR 0 17 []) (S57.L20 (is0) (elV tp2 fs1) (ns2) (ns3) (elV tp2 fs4) (jv0 (fs1 0)) (jv1 (fs1 0)) (is5) (is6) (fs7) (ns2) (fs8) (is9) (fs10)) [⟨13, tp2, 8, elV tp2 fs1, vf_view rfl _ _⟩, ⟨15, tp2, ns3, elV tp2 fs4, vf_view rfl _ _⟩])))
 | .L20 iu0 fu1 nu2 nu3 fu4 iu5 iu6 iu7 iu8 fu9 nu10 fu11 iu12 fu13 => .obi (.obi (.obi (.obi (.obj (decide (i64.wrap (iu0 + 1) < (↑nu2 : Int))) (decide (0 <= i64.wrap ((↑nu2 : Int) - 2) /\ i64.wrap ((↑nu2 : Int) - 2) < (↑nu2 : Int) /\ nu2 <= nu3)) (.obi (.obj (decide (i64.wrap (iu0 + 1) < (↑nu2 : Int))) (decide ((i64.wrap ((↑nu2 : Int) - 2)).toNat < nu3)) (.obi (.obi (.obi (.obi (.obj (decide (i64.wrap (iu0 + 1) < (↑nu2 : Int))) (decide (0 <= i64.wrap ((↑nu2 : Int) - 1) /\ i64.wrap ((↑nu2 : Int) - 1) < (↑nu2 : Int) /\ nu2 <= nu3)) (.obi (.obj (decide (i64.wrap (iu0 + 1) < (↑nu2 : Int))) (decide ((i64.wrap ((↑nu2 : Int) - 1)).toNat < nu3)) (.obi (.obi (.br (decide (i64.wrap (iu0 + 1) < (↑nu2 : Int))) (.ob (decide (i64.wrap (iu0 + 1) < (↑nu2 : Int))) (.ob (decide (i64.wrap (iu0 + 1) < (↑nu2 : Int))) (.obc (.obt (.br (decide (F78_0 (jv0 (fu4 (i64.wrap ((↑nu2 : Int) - 2)).toNat)) (jv1 (fu4 (i64.wrap ((↑nu2 : Int) - 2)).toNat)) (jv0 (fu4 (i64.wrap ((↑nu2 : Int) - 1)).toNat)) (jv1 (fu4 (i64.wrap ((↑nu2 : Int) - 1)).toNat)) iu5 iu6 <= 0)) (.ob (decide (0 <= i64.wrap ((↑nu2 : Int) - 1) /\ i64.wrap ((↑nu2 : Int) - 1) <= (↑nu2 : Int))) (.next (iR 0 17 []) (S57.L20 (iu0) (elV tp2 fu1) ((i64.wrap ((↑nu2 : Int) - 1)).toNat) (nu3) (elV tp2 fu4) (iu5) (iu6) (iu7) (iu8) (fu9) (nu10) (fu11) (iu12) (fu13)) [⟨13, tp2, 8, elV tp2 fu1, vf_view rfl _ _⟩, ⟨15, tp2, nu3, elV tp2 fu4, vf_view rfl _ _⟩])) (.obt (.ob (decide (nu2 <= nu3 /\ (nu2 + 1) * 16 <= 140737488355328) && !Nat.beq 16 0) (.next (iR 0 17 [some (some 18)]) (S57.L22 (i64.wrap (0 + 1)) (iu0) (elV tp2 fu1) (nu2 + 1) (iu5) (iu6) (joinF nu2 (elV tp2 fu4) fun x => [vi iu5, vi iu6]) (iu7) (iu8) (fu9) (nu10) (nu3) (fu11) (iu12) (fu13)) [⟨13, tp2, 8, elV tp2 fu1, vf_view rfl _ _⟩, ⟨17, tp2, nu2 + 1, joinF nu2 (elV tp2 fu4) fun x => [vi iu5, vi iu6], vf_join (vf_view rfl _ _) (vf_const rfl _ rfl)⟩])))))))) (.obt (.ob (decide (nu2 <= nu3 /\ (nu2 + 1) * 16 <= 140737488355328) && !Nat.beq 16 0) (.next (iR 0 17 [some (some 18)]) (S57.L22 (i64.wrap (0 + 1)) (iu0) (elV tp2 fu1) (nu2 + 1) (iu5) (iu6) (joinF nu2 (elV tp2 fu4) fun x => [vi iu5, vi iu6]) (iu7) (iu8) (fu9) (nu10) (nu3) (fu11) (iu12) (fu13)) [⟨13, tp2, 8, elV tp2 fu1, vf_view rfl _ _⟩, ⟨17, tp2, nu2 + 1, joinF nu2 (elV tp2 fu4) fun x => [vi iu5, vi iu6], vf_join (vf_view rfl _ _) (vf_const rfl _ rfl)⟩])))))))))))))))))))
 | .L22 iw0 iw1 fw2 nw3 iw4 iw5 fw6 iw7 iw8 fw9 nw10 nw11 fw12 iw13 fw14 => .br (decide (iw0 < (↑8 : Int))) (.ob (decide (0 <= iw0 /\ iw0 < (↑8 : Int) /\ 8 <= 8)) (.ob (decide (iw0.toNat < 8)) (.enter (iR 0 16 [some (some 18), some (some 17)]) (S57.L23 (iw0) (iw1) (elV tp2 fw2) (nw3) (jv0 (fw2 iw0.toNat)) (jv1 (fw2 iw0.toNat)) (nw3) (elV tp2 fw6) (iw7) (iw8) (fw9) (nw10) (nw11) (fw12) (iw13) (fw14)) [⟨13, tp2, 8, elV tp2 fw2, vf_view rfl _ _⟩, ⟨17, tp2, nw3, elV tp2 fw6, vf_view rfl _ _⟩]))) (.ob (decide (0 <= i64.wrap ((↑nw3 : Int) - 1) /\ i64.wrap ((↑nw3 : Int) - 1) <= (↑nw3 : Int))) (.enter [some (some 17), some (some 0)] (S57.L5 (0) ((↑(i64.wrap ((↑nw3 : Int) - 1)).toNat : Int)) ((i64.wrap ((↑nw3 : Int) - 1)).toNat) (decide (2 < (↑(i64.wrap ((↑nw3 : Int) - 1)).toNat : Int))) (nw3) (elV tp2 fw6)) [⟨0, tp2, nw3, elV tp2 fw6, vf_view rfl _ _⟩]))
 | .L23 ix0 ix1 fx2 nx3 ix4 ix5 nx6 fx7 ix8 ix9 fx10 nx11 nx12 fx13 ix14 fx15 => .obi (.obi (.obi (.obi (.obj (decide (i64.wrap (ix1 + 1) < (↑nx3 : Int))) (decide (0 <= i64.wrap ((↑nx3 : Int) - 2) /\ i64.wrap ((↑nx3 : Int) - 2) < (↑nx3 : Int) /\ nx3 <= nx6)) (.obi (.obj (decide (i64.wrap (ix1 + 1) < (↑nx3 : Int))) (decide ((i64.wrap ((↑nx3 : Int) - 2)).toNat < nx6)) (.obi (.obi (.obi (.obi (.obj (decide (i64.wrap (ix1 + 1) < (↑nx3 : Int))) (decide (0 <= i64.wrap ((↑nx3 : Int) - 1) /\ i64.wrap ((↑nx3 : Int) - 1) < (↑nx3 : Int) /\ nx3 <= nx6)) (.obi (.obj (decide (i64.wrap (ix1 + 1) < (↑nx3 : Int))) (decide ((i64.wrap ((↑nx3 : Int) - 1)).toNat < nx6)) (.obi (.obi (.br (decide (i64.wrap (ix1 + 1) < (↑nx3 : Int))) (.ob (decide (i64.wrap (ix1 + 1) < (↑nx3 : Int))) (.ob (decide (i64.wrap (ix1 + 1) < (↑nx3 : Int))) (.obc (.obt (.br (decide (F78_0 (jv0 (fx7 (i64.wrap ((↑nx3 : Int) - 2)).toNat)) (jv1 (fx7 (i64.wrap ((↑nx3 : Int) - 2)).toNat)) (jv0 (fx7 (i64.wrap ((↑nx3 : Int) - 1)).toNat)) (jv1 (fx7 (i64.wrap ((↑nx3 : Int) - 1)).toNat)) ix4 ix5 <= 0)) (.ob (decide (0 <= i64.wrap ((↑nx3 : Int) - 1) /\ i64.wrap ((↑nx3 : Int) - 1) <= (↑nx3 : Int))) (.next (iR 0 18 []) (S57.L23 (ix0) (ix1) (elV tp2 fx2) ((i64.wrap ((↑nx3 : Int) - 1)).toNat) (ix4) (ix5) (nx6) (elV tp2 fx7) (ix8) (ix9) (fx10) (nx11) (nx12) (fx13) (ix14) (fx15)) [⟨13, tp2, 8, elV tp2 fx2, vf_view rfl _ _⟩, ⟨17, tp2, nx6, elV tp2 fx7, vf_view rfl _ _⟩])) (.obt (.ob (decide (nx3 <= nx6 /\ (nx3 + 1) * 16 <= 140737488355328) && !Nat.beq 16 0) (.next (iR 0 17 [some (some 19)]) (S57.L22 (i64.wrap (ix0 + 1)) (ix1) (elV tp2 fx2) (nx3 + 1) (ix4) (ix5) (joinF nx3 (elV tp2 fx7) fun x => [vi ix4, vi ix5]) (ix8) (ix9) (fx10) (nx11) (nx12) (fx13) (ix14) (fx15)) [⟨13, tp2, 8, elV tp2 fx2, vf_view rfl _ _⟩, ⟨17, tp2, nx3 + 1, joinF nx3 (elV tp2 fx7) fun x => [vi ix4, vi ix5], vf_join (vf_view rfl _ _) (vf_const rfl _ rfl)⟩])))))))) (.obt (.ob (decide (nx3 <= nx6 /\ (nx3 + 1) * 16 <= 140737488355328) && !Nat.beq 16 0) (.next (iR 0 17 [some (some 19)]) (S57.L22 (i64.wrap (ix0 + 1)) (ix1) (elV tp2 fx2) (nx3 + 1) (ix4) (ix5) (joinF nx3 (elV tp2 fx7) fun x => [vi ix4, vi ix5]) (ix8) (ix9) (fx10) (nx11) (nx12) (fx13) (ix14) (fx15)) [⟨13, tp2, 8, elV tp2 fx2, vf_view rfl _ _⟩, ⟨17, tp2, nx3 + 1, joinF nx3 (elV tp2 fx7) fun x => [vi ix4, vi ix5], vf_join (vf_view rfl _ _) (vf_const rfl _ rfl)⟩])))))))))))))))))))
 | .L24 iy0 ny1 iy2 fy3 ny4 ny5 fy6 iy7 iy8 iy9 ny10 fy11 fy12 iy13 ny14 ny15 iy16 iy17 iy18 ny19 iy20 iy21 fy22 => .br (decide (0 < iy0)) (.ob (decide ((0 : Int) <= 0 /\ 0 < (↑ny1 : Int) /\ ny1 <= 8)) (.obt (.enter (iR 0 17 []) (S57.L25 (iy0) (ny1) (iy2) (elV tp2 fy3) (ny4) (ny5) (elV tp2 fy6) (jv0 (fy3 0)) (jv1 (fy3 0)) (iy7) (iy8) (iy9) (ny10) (fy11) (ny4) (fy12) (iy13) (ny14) (ny15) (iy16) (iy17) (iy18) (ny19) (iy20) (iy21) (fy22)) [⟨13, tp2, 8, elV tp2 fy3, vf_view rfl _ _⟩, ⟨15, tp2, ny5, elV tp2 fy6, vf_view rfl _ _⟩]))) (.ob (decide (0 <= i64.wrap ((↑ny4 : Int) - 1) /\ i64.wrap ((↑ny4 : Int) - 1) <= (↑ny4 : Int))) (.enter [some (some 15), some (some 0)] (S57.L5 (0) ((↑(i64.wrap ((↑ny4 : Int) - 1)).toNat : Int)) ((i64.wrap ((↑ny4 : Int) - 1)).toNat) (decide (2 < (↑(i64.wrap ((↑ny4 : Int) - 1)).toNat : Int))) (ny5) (elV tp2 fy6)) [⟨0, tp2, ny5, elV tp2 fy6, vf_view rfl _ _⟩]))
 | .L25 iz0 nz1 iz2 fz3 nz4 nz5 fz6 iz7 iz8 iz9 iz10 iz11 nz12 fz13 nz14 fz15 iz16 nz17 nz18 iz19 iz20 iz21 nz22 iz23 iz24 fz25 => .obi (.obi (.obi (.obi (.obj (decide (i64.wrap (iz2 + 1) < (↑nz4 : Int))) (decide (0 <= i64.wrap ((↑nz4 : Int) - 2) /\ i64.wrap ((↑nz4 : Int) - 2) < (↑nz4 : Int) /\ nz4 <= nz5)) (.obi (.obj (decide (i64.wrap (iz2 + 1) < (↑nz4 : Int))) (decide ((i64.wrap ((↑nz4 : Int) - 2)).toNat < nz5)) (.obi (.obi (.obi (.obi (.obj (decide (i64.wrap (iz2 + 1) < (↑nz4 : Int))) (decide (0 <= i64.wrap ((↑nz4 : Int) - 1) /\ i64.wrap ((↑nz4 : Int) - 1) < (↑nz4 : Int) /\ nz4 <= nz5)) (.obi (.obj (decide (i64.wrap (iz2 + 1) < (↑nz4 : Int))) (decide ((i64.wrap ((↑nz4 : Int) - 1)).toNat < nz5)) (.obi (.obi (.br (decide (i64.wrap (iz2 + 1) < (↑nz4 : Int))) (.ob (decide (i64.wrap (iz2 + 1) < (↑nz4 : Int))) (.ob (decide (i64.wrap (iz2 + 1) < (↑nz4 : Int))) (.obc (.obt (.br (decide (F78_0 (jv0 (fz6 (i64.wrap ((↑nz4 : Int) - 2)).toNat)) (jv1 (fz6 (i64.wrap ((↑nz4 : Int) - 2)).toNat)) (jv0 (fz6 (i64.wrap ((↑nz4 : Int) - 1)).toNat)) (jv1 (fz6 (i64.wrap ((↑nz4 : Int) - 1)).toNat)) iz7 iz8 <= 0)) (.ob (decide (0 <= i64.wrap ((↑nz4 : Int) - 1) /\ i64.wrap ((↑nz4 : Int) - 1) <= (↑nz4 : Int))) (.next (iR 0 17 []) (S57.L25 (iz0) (nz1) (iz2) (elV tp2 fz3) ((i64.wrap ((↑nz4 : Int) - 1)).toNat) (nz5) (elV tp2 fz6) (iz7) (iz8) (iz9) (iz10) (iz11) (nz12) (fz13) (nz14) (fz15) (iz16) (nz17) (nz18) (iz19) (iz20) (iz21) (nz22) (iz23) (iz24) (fz25)) [⟨13, tp2, 8, elV tp2 fz3, vf_view rfl _ _⟩, ⟨15, tp2, nz5, elV tp2 fz6, vf_view rfl _ _⟩])) (.obt (.ob (decide (nz4 <= nz5 /\ (nz4 + 1) * 16 <= 140737488355328) && !Nat.beq 16 0) (.next (iR 0 17 [some (some 18)]) (S57.L26 (i64.wrap (0 + 1)) (iz0) (nz1) (iz2) (elV tp2 fz3) (nz4 + 1) (iz7) (iz8) (joinF nz4 (elV tp2 fz6) fun x => [vi iz7, vi iz8]) (iz9) (iz10) (iz11) (nz12) (fz13) (nz14) (nz5) (fz15) (iz16) (nz17) (nz18) (iz19) (iz20) (iz21) (nz22) (iz23) (iz24) (fz25)) [⟨13, tp2, 8, elV tp2 fz3, vf_view rfl _ _⟩, ⟨17, tp2, nz4 + 1, joinF nz4 (elV tp2 fz6) fun x => [vi iz7, vi iz8], vf_join (vf_view rfl _ _) (vf_const rfl _ rfl)⟩])))))))) (.obt (.ob (decide (nz4 <= nz5 /\ (nz4 + 1) * 16 <= 140737488355328) && !Nat.beq 16 0) (.next (iR 0 17 [some (some 18)]) (S57.L26 (i64.wrap (0 + 1)) (iz0) (nz1) (iz2) (elV tp2 fz3) (nz4 + 1) (iz7) (iz8) (joinF nz4 (elV tp2 fz6) fun x => [vi iz7, vi iz8]) (iz9) (iz10) (iz11) (nz12) (fz13) (nz14) (nz5) (fz15) (iz16) (nz17) (nz18) (iz19) (iz20) (iz21) (nz22) (iz23) (iz24) (fz25)) [⟨13, tp2, 8, elV tp2 fz3, vf_view rfl _ _⟩, ⟨17, tp2, nz4 + 1, joinF nz4 (elV tp2 fz6) fun x => [vi iz7, vi iz8], vf_join (vf_view rfl _ _) (vf_const rfl _ rfl)⟩])))))))))))))))))))
 | .L26 iza0 iza1 nza2 iza3 fza4 nza5 iza6 iza7 fza8 iza9 iza10 iza11 nza12 fza13 nza14 nza15 fza16 iza17 nza18 nza19 iza20 iza21 iza22 nza23 iza24 iza25 fza26 => .br (decide (iza0 < iza1)) (.ob (decide (0 <= iza0 /\ iza0 < (↑nza2 : Int) /\ nza2 <= 8)) (.ob (decide (iza0.toNat < 8)) (.enter (iR 0 16 [some (some 18), some (some 17)]) (S57.L27 (iza0) (iza1) (nza2) (iza3) (elV tp2 fza4) (nza5) (jv0 (fza4 iza0.toNat)) (jv1 (fza4 iza0.toNat)) (nza5) (elV tp2 fza8) (iza9) (iza10) (iza11) (nza12) (fza13) (nza14) (nza15) (fza16) (iza17) (nza18) (nza19) (iza20) (iza21) (iza22) (nza23) (iza24) (iza25) (fza26)) [⟨13, tp2, 8, elV tp2 fza4, vf_view rfl _ _⟩, ⟨17, tp2, nza5, elV tp2 fza8, vf_view rfl _ _⟩]))) (.ob (decide (0 <= i64.wrap ((↑nza5 : Int) - 1) /\ i64.wrap ((↑nza5 : Int) - 1) <= (↑nza5 : Int))) (.enter [some (some 17), some (some 0)] (S57.L5 (0) ((↑(i64.wrap ((↑nza5 : Int) - 1)).toNat : Int)) ((i64.wrap ((↑nza5 : Int) - 1)).toNat) (decide (2 < (↑(i64.wrap ((↑nza5 : Int) - 1)).toNat : Int))) (nza5) (elV tp2 fza8)) [⟨0, tp2, nza5, elV tp2 fza8, vf_view rfl _ _⟩]))
 | .L27 izb0 izb1 nzb2 izb3 fzb4 nzb5 izb6 izb7 nzb8 fzb9 izb10 izb11 izb12 nzb13 fzb14 nzb15 nzb16 fzb17 izb18 nzb19 nzb20 izb21 izb22 izb23 nzb24 izb25 izb26 fzb27 => .obi (.obi (.obi (.obi (.obj (decide (i64.wrap (izb3 + 1) < (↑nzb5 : Int))) (decide (0 <= i64.wrap ((↑nzb5 : Int) - 2) /\ i64.wrap ((↑nzb5 : Int) - 2) < (↑nzb5 : Int) /\ nzb5 <= nzb8)) (.obi (.obj (decide (i64.wrap (izb3 + 1) < (↑nzb5 : Int))) (decide ((i64.wrap ((↑nzb5 : Int) - 2)).toNat < nzb8)) (.obi (.obi (.obi (.obi (.obj (decide (i64.wrap (izb3 + 1) < (↑nzb5 : Int))) (decide (0 <= i64.wrap ((↑nzb5 : Int) - 1) /\ i64.wrap ((↑nzb5 : Int) - 1) < (↑nzb5 : Int) /\ nzb5 <= nzb8)) (.obi (.obj (decide (i64.wrap (izb3 + 1) < (↑nzb5 : Int))) (decide ((i64.wrap ((↑nzb5 : Int) - 1)).toNat < nzb8)) (.obi (.obi (.br (decide (i64.wrap (izb3 + 1) < (↑nzb5 : Int))) (.ob (decide (i64.wrap (izb3 + 1) < (↑nzb5 : Int))) (.ob (decide (i64.wrap (izb3 + 1) < (↑nzb5 : Int))) (.obc (.obt (.br (decide (F78_0 (jv0 (fzb9 (i64.wrap ((↑nzb5 : Int) - 2)).toNat)) (jv1 (fzb9 (i64.wrap ((↑nzb5 : Int) - 2)).toNat)) (jv0 (fzb9 (i64.wrap ((↑nzb5 : Int) - 1)).toNat)) (jv1 (fzb9 (i64.wrap ((↑nzb5 : Int) - 1)).toNat)) izb6 izb7 <= 0)) (.ob (decide (0 <= i64.wrap ((↑nzb5 : Int) - 1) /\ i64.wrap ((↑nzb5 : Int) - 1) <= (↑nzb5 : Int))) (.next (iR 0 18 []) (S57.L27 (izb0) (izb1) (nzb2) (izb3) (elV tp2 fzb4) ((i64.wrap ((↑nzb5 : Int) - 1)).toNat) (izb6) (izb7) (nzb8) (elV tp2 fzb9) (izb10) (izb11) (izb12) (nzb13) (fzb14) (nzb15) (nzb16) (fzb17) (izb18) (nzb19) (nzb20) (izb21) (izb22) (izb23) (nzb24) (izb25) (izb26) (fzb27)) [⟨13, tp2, 8, elV tp2 fzb4, vf_view rfl _ _⟩, ⟨17, tp2, nzb8, elV tp2 fzb9, vf_view rfl _ _⟩])) (.obt (.ob (decide (nzb5 <= nzb8 /\ (nzb5 + 1) * 16 <= 140737488355328) && !Nat.beq 16 0) (.next (iR 0 17 [some (some 19)]) (S57.L26 (i64.wrap (izb0 + 1)) (izb1) (nzb2) (izb3) (elV tp2 fzb4) (nzb5 + 1) (izb6) (izb7) (joinF nzb5 (elV tp2 fzb9) fun x => [vi izb6, vi izb7]) (izb10) (izb11) (izb12) (nzb13) (fzb14) (nzb15) (nzb16) (fzb17) (izb18) (nzb19) (nzb20) (izb21) (izb22) (izb23) (nzb24) (izb25) (izb26) (fzb27)) [⟨13, tp2, 8, elV tp2 fzb4, vf_view rfl _ _⟩, ⟨17, tp2, nzb5 + 1, joinF nzb5 (elV tp2 fzb9) fun x => [vi izb6, vi izb7], vf_join (vf_view rfl _ _) (vf_const rfl _ rfl)⟩])))))))) (.obt (.ob (decide (nzb5 <= nzb8 /\ (nzb5 + 1) * 16 <= 140737488355328) && !Nat.beq 16 0) (.next (iR 0 17 [some (some 19)]) (S57.L26 (i64.wrap (izb0 + 1)) (izb1) (nzb2) (izb3) (elV tp2 fzb4) (nzb5 + 1) (izb6) (izb7) (joinF nzb5 (elV tp2 fzb9) fun x => [vi izb6, vi izb7]) (izb10) (izb11) (izb12) (nzb13) (fzb14) (nzb15) (nzb16) (fzb17) (izb18) (nzb19) (nzb20) (izb21) (izb22) (izb23) (nzb24) (izb25) (izb26) (fzb27)) [⟨13, tp2, 8, elV tp2 fzb4, vf_view rfl _ _⟩, ⟨17, tp2, nzb5 + 1, joinF nzb5 (elV tp2 fzb9) fun x => [vi izb6, vi izb7], vf_join (vf_view rfl _ _) (vf_const rfl _ rfl)⟩])))))))))))))))))))
def m57 (x0 x1 x2 x3 x4 x5 x6 x7 : Int) (b8 : Bool) (x9 x10 x11 x12 : Int) : RT S57 := .br (b8) (.ret (V.kb false)) (.obc (.obt (.brt (.obt (.obc (.obt (.obc (.obt (.obt (.obt (.brt (.obt (.obc (.obt (.obc (.obt (.obt (.obt (.brt (.obt (.obc (.obt (.obc (.obt (.obt (.obt (.brt (.obt (.obc (.obt (.obc (.obt (.obt (.obt (.brf (.obc (.obt (.brt (.enter (iR 0 14 []) (S57.L0 (i64.wrap (0 + 1)) (joinF 6 (joinF 4 (joinF 2 (fun i => List.take 2 (List.drop (i * 2) [vi (F102_0 x0 x2 x9 x3), vi (F102_1 x1 x2 x10 x3), vi (F102_0 x0 x2 x9 x4), vi (F102_1 x1 x2 x10 x4)])) fun i => List.take 2 (List.drop (i * 2) [vi (F102_0 x0 x2 x11 x3), vi (F102_1 x1 x2 x10 x3), vi (F102_0 x0 x2 x11 x4), vi (F102_1 x1 x2 x10 x4)])) fun i => List.take 2 (List.drop (i * 2) [vi (F102_0 x0 x2 x11 x3), vi (F102_1 x1 x2 x12 x3), vi (F102_0 x0 x2 x11 x4), vi (F102_1 x1 x2 x12 x4)])) fun i => List.take 2 (List.drop (i * 2) [vi (F102_0 x0 x2 x9 x3), vi (F102_1 x1 x2 x12 x3), vi (F102_0 x0 x2 x9 x4), vi (F102_1 x1 x2 x12 x4)]))) [⟨13, tp2, 8, joinF 6 (joinF 4 (joinF 2 (fun i => List.take 2 (List.drop (i * 2) [vi (F102_0 x0 x2 x9 x3), vi (F102_1 x1 x2 x10 x3), vi (F102_0 x0 x2 x9 x4), vi (F102_1 x1 x2 x10 x4)])) fun i => List.take 2 (List.drop (i * 2) [vi (F102_0 x0 x2 x11 x3), vi (F102_1 x1 x2 x10 x3), vi (F102_0 x0 x2 x11 x4), vi (F102_1 x1 x2 x10 x4)])) fun i => List.take 2 (List.drop (i * 2) [vi (F102_0 x0 x2 x11 x3), vi (F102_1 x1 x2 x12 x3), vi (F102_0 x0 x2 x11 x4), vi (F102_1 x1 x2 x12 x4)])) fun i => List.take 2 (List.drop (i * 2) [vi (F102_0 x0 x2 x9 x3), vi (F102_1 x1 x2 x12 x3), vi (F102_0 x0 x2 x9 x4), vi (F102_1 x1 x2 x12 x4)]), vf_all rfl rfl⟩])))))))))))))))))))))))))))))))))))))))
theorem run57 (x0 x1 x2 x3 x4 x5 x6 x7 : Int) (b8 : Bool) (x9 x10 x11 x12 : Int) : Fits ctB29 u57 (D57 x0 x1 x2 x3 x4 x5 x6 x7 b8 x9 x10 x11 x12) (rl57 x0 x1 x2 x3 x4 x5 x6 x7 b8 x9 x10 x11 x12) (m57 x0 x1 x2 x3 x4 x5 x6 x7 b8 x9 x10 x11 x12) (st57 x0 x1 x2 x3 x4 x5 x6 x7 b8 x9 x10 x11 x12) := ⟨⟨by kernel_rfl, by kernel_rfl⟩, fun s => by cases s <;> exact ⟨by kernel_rfl, by kernel_rfl⟩⟩
attribute [local irreducible] F103_0 F78_0 F140_0
def pl57 (x0 x1 x2 x3 x4 x9 x10 x11 x12 : Int) : List P2 := [(F102_0 x0 x2 x9 x3, F102_1 x1 x2 x10 x3), (F102_0 x0 x2 x9 x4, F102_1 x1 x2 x10 x4), (F102_0 x0 x2 x11 x3, F102_1 x1 x2 x10 x3), (F102_0 x0 x2 x11 x4, F102_1 x1 x2 x10 x4), (F102_0 x0 x2 x11 x3, F102_1 x1 x2 x12 x3), (F102_0 x0 x2 x11 x4, F102_1 x1 x2 x12 x4), (F102_0 x0 x2 x9 x3, F102_1 x1 x2 x12 x3), (F102_0 x0 x2 x9 x4, F102_1 x1 x2 x12 x4)]
def F57 (x0 x1 x2 x3 x4 x5 x6 x7 : Int) (b8 : Bool) (x9 x10 x11 x12 : Int) : Bool := !b8 && refB (pl57 x0 x1 x2 x3 x4 x9 x10 x11 x12) (x5, x6) x7
def In57 (x0 x1 x2 x3 x4 x5 x6 x7 x9 x10 x11 x12 : Int) : Prop := (-100000 <= x0 /\ x0 <= 100000) /\ (-100000 <= x1 /\ x1 <= 100000) /\ (0 <= x2 /\ x2 <= 200) /\ (0 <= x3 /\ x3 <= 200) /\ (0 <= x4 /\ x4 <= 200) /\ sm x5 /\ sm x6 /\ (0 <= x7 /\ x7 <= 1073741824) /\ (-100000 <= x9 /\ x9 <= 100000) /\ (-100000 <= x10 /\ x10 <= 100000) /\ (-100000 <= x11 /\ x11 <= 100000) /\ (-100000 <= x12 /\ x12 <= 100000)
theorem atS {l h n x : Int} (hl : -100000 <= l /\ l <= 100000) (hh : 0 <= h /\ h <= 200) (hn : 0 <= n /\ n <= 200) (hx : -100000 <= x /\ x <= 100000) : F102_0 l h x n = h * l + n * (x - l) /\ F102_1 l h x n = h * l + n * (x - l) /\ sm (h * l + n * (x - l)) := by
 have k1 := mulS (x := h) (y := l) (A := 200) (B := 100000) (by omega) (by omega) (by omega) (by omega)
 have k2 := mulS (x := n) (y := x - l) (A := 200) (B := 200000) (by omega) (by omega) (by omega) (by omega)
 unfold F102_0 F102_1 F84_0 F84_1
 rw [wrapI (x := x - l) (by omega) (by omega), wrapI (x := h * l) (by omega) (by omega), wrapI (x := n * (x - l)) (by omega) (by omega), wrapI (x := h * l + n * (x - l)) (by omega) (by omega)]
 exact ⟨rfl, rfl, by unfold sm; omega⟩
theorem pl57_sm {x0 x1 x2 x3 x4 x5 x6 x7 x9 x10 x11 x12 : Int} (h : In57 x0 x1 x2 x3 x4 x5 x6 x7 x9 x10 x11 x12) : ∀ q ∈ pl57 x0 x1 x2 x3 x4 x9 x10 x11 x12, SmP q := by
 obtain ⟨h0, h1, h2, h3, h4, h5, h6, h7, h9, h10, h11, h12⟩ := h
 have k : ∀ a b n : Int, (-100000 <= a /\ a <= 100000) -> (-100000 <= b /\ b <= 100000) -> (0 <= n /\ n <= 200) -> SmP (F102_0 x0 x2 a n, F102_1 x1 x2 b n) := fun a b n ha hb hn => by
  have e1 := atS h0 h2 hn ha
  have e2 := atS h1 h2 hn hb
  exact ⟨by show sm (F102_0 x0 x2 a n); rw [e1.1]; exact e1.2.2, by show sm (F102_1 x1 x2 b n); rw [e2.2.1]; exact e2.2.2⟩
 intro q hq
 simp only [pl57, List.mem_cons, List.not_mem_nil, or_false] at hq
 rcases hq with rfl | rfl | rfl | rfl | rfl | rfl | rfl | rfl
 ·exact k _ _ _ h9 h10 h3
 ·exact k _ _ _ h9 h10 h4
 ·exact k _ _ _ h11 h10 h3
 ·exact k _ _ _ h11 h10 h4
 ·exact k _ _ _ h11 h12 h3
 ·exact k _ _ _ h11 h12 h4
 ·exact k _ _ _ h9 h12 h3
 ·exact k _ _ _ h9 h12 h4
theorem fin57 (x0 x1 x2 x3 x4 x5 x6 x7 : Int) (b8 : Bool) (x9 x10 x11 x12 : Int) (hm : SmP (x5, x6)) (h7 : 0 <= x7) (h8 : x7 <= 1073741824) {n cap : Nat} {fo : (Nat -> List V)} (hc : n <= cap) (hC : cap <= 100) (h1 : 1 <= n) (hs : ∀ k, k < n -> SmP (pq fo k)) :
 Ev (st57 x0 x1 x2 x3 x4 x5 x6 x7 b8 x9 x10 x11 x12) (.L5 0 (n : Int) n (decide (2 < (n : Int))) cap fo) (.bool (tpB (ptL n fo) (x5, x6) x7)) := by
 have key : ∀ i, i <= n -> ∀ (b : Bool) (g : (Nat -> List V)), (∀ k, pq g k = pq fo k) -> (b = true ↔ 2 < n /\ ∀ k, k < i -> 0 < sdp (pq fo k) (pq fo ((k + 1) % n)) (x5, x6)) -> (∀ k, k < i -> nrp (pq fo k) (pq fo ((k + 1) % n)) (x5, x6) x7 = false) -> Ev (st57 x0 x1 x2 x3 x4 x5 x6 x7 b8 x9 x10 x11 x12) (.L5 (i : Int) (n : Int) n b cap g) (.bool (tpB (ptL n fo) (x5, x6) x7)) := by
  refine up_ind fun i hi ih b g hg hb hN => ?_
  by_cases hlt : i < n
  ·have hmod : (i + 1) % n < n := Nat.mod_lt _ (by omega)
   have e : (i64.wrap ((i : Int) + 1)).tmod (n : Int) = (((i + 1) % n : Nat) : Int) := by
    rw [wp1 (by omega)]; exact (Int.ofNat_tmod _ _).symm
   have n1 : F103_0 (pq g i).1 (pq g i).2 (pq g ((i + 1) % n)).1 (pq g ((i + 1) % n)).2 x5 x6 x7 = nrp (pq fo i) (pq fo ((i + 1) % n)) (x5, x6) x7 := by
    rw [hg, hg]; exact nrT (a := pq fo i) (b := pq fo ((i + 1) % n)) (p := (x5, x6)) (hs i hlt) (hs _ hmod) hm h7 h8
   have n2 : F78_0 (pq g i).1 (pq g i).2 (pq g ((i + 1) % n)).1 (pq g ((i + 1) % n)).2 x5 x6 = sdp (pq fo i) (pq fo ((i + 1) % n)) (x5, x6) := by
    rw [hg, hg]; exact sdT (a := pq fo i) (b := pq fo ((i + 1) % n)) (p := (x5, x6)) (hs i hlt) (hs _ hmod) hm
   refine Ev.of rfl (evBrT (dqt (by omega)) (evOb (dqt (by omega)) (evOb (dqt (by omega)) (evOb (dqt (by omega)) (evOb (dqt (by rw [e]; omega)) (evOb (dqt (by rw [e]; omega)) (evObc (evObt ?_))))))))
   have hstep : ∀ b', (b' = true ↔ b = true /\ 0 < sdp (pq fo i) (pq fo ((i + 1) % n)) (x5, x6)) -> nrp (pq fo i) (pq fo ((i + 1) % n)) (x5, x6) x7 = false -> Ev (st57 x0 x1 x2 x3 x4 x5 x6 x7 b8 x9 x10 x11 x12) (.L5 (i64.wrap ((i : Int) + 1)) (n : Int) n b' cap (elV ty2 g)) (.bool (tpB (ptL n fo) (x5, x6) x7)) := fun b' hb' hn => by
    rw [wp1 (by omega)]
    refine ih hlt b' _ (fun k => hg k) ?_ ?_
    ·rw [hb', hb]
     constructor
     ·rintro ⟨⟨q1, q2⟩, q3⟩
      refine ⟨q1, fun k hk => ?_⟩
      by_cases ek : k = i
      ·rw [ek]; exact q3
      ·exact q2 k (by omega)
     ·rintro ⟨q1, q2⟩
      exact ⟨⟨q1, fun k hk => q2 k (by omega)⟩, q2 i (by omega)⟩
    ·intro k hk
     by_cases ek : k = i
     ·rw [ek]; exact hn
     ·exact hN k (by omega)
   have e' : ((i64.wrap ((i : Int) + 1)).tmod (n : Int)).toNat = (i + 1) % n := by rw [e]; rfl
   refine evBr (fun hx => evRet ?_) (fun hx => evObi (evBr (fun hb0 => evOb hb0 (evOb hb0 (evObc (evObt (evNext ?_))))) (fun hb0 => evNext ?_)))
   ·rw [e'] at hx
    have hx : nrp (pq fo i) (pq fo ((i + 1) % n)) (x5, x6) x7 = true := n1.symm.trans hx
    rw [tpB_t (.inl ⟨i, by rw [ptL_len]; exact hlt, by rw [ptL_len, ptL_pAt hlt, ptL_pAt hmod]; exact hx⟩)]; rfl
   ·rw [e'] at hx ⊢
    refine hstep _ ?_ (n1.symm.trans hx)
    rw [decide_eq_true_eq]
    have n2' : F78_0 (jv0 (g (i : Int).toNat)) (jv1 (g (i : Int).toNat)) (jv0 (g ((i + 1) % n))) (jv1 (g ((i + 1) % n))) x5 x6 = _ := n2
    rw [n2']
    exact ⟨fun q => ⟨hb0, q⟩, fun q => q.2⟩
   ·rw [e'] at hx
    refine hstep _ ?_ (n1.symm.trans hx)
    rw [hb0]
    exact ⟨(fun q => by cases q), fun q => q.1⟩
  ·have ei : i = n := by omega
   subst ei
   refine Ev.of rfl (evBrF (dqf (by omega)) (evRet ?_))
   have : b = tpB (ptL i fo) (x5, x6) x7 := by
    cases hb' : b with
    | true =>
      have := hb.1 hb'
      refine (tpB_t (.inr ⟨by rw [ptL_len]; exact this.1, fun k hk => ?_⟩)).symm
      rw [ptL_len] at hk ⊢
      rw [ptL_pAt hk, ptL_pAt (Nat.mod_lt _ (by omega))]
      exact this.2 k hk
    | false =>
      refine (tpB_f ?_).symm
      rintro (⟨k, hk, h⟩ | ⟨q1, q2⟩)
      ·rw [ptL_len] at hk h
       rw [ptL_pAt hk, ptL_pAt (Nat.mod_lt _ (by omega)), hN k hk] at h; cases h
      ·rw [ptL_len] at q1 q2
       have := hb.2 ⟨q1, fun k hk => by
        have := q2 k hk
        rwa [ptL_pAt hk, ptL_pAt (Nat.mod_lt _ (by omega))] at this⟩
       rw [hb'] at this; cases this
   rw [this]
 exact key 0 (Nat.zero_le _) _ fo (fun _ => rfl) ⟨fun h => ⟨by have := of_decide_eq_true h; omega, fun k hk => by omega⟩, fun h => dqt (by omega)⟩ (fun k hk => by omega)
theorem srt57 (x0 x1 x2 x3 x4 x5 x6 x7 : Int) (b8 : Bool) (x9 x10 x11 x12 : Int) {r : V} {D : P2 -> Prop} (hD : ∀ q, D q -> SmP q) (h2 : ∀ f j g, Srt 8 f -> MemN 8 D f -> Ev (st57 x0 x1 x2 x3 x4 x5 x6 x7 b8 x9 x10 x11 x12) (.L2 1 f j g) r) {f : (Nat -> List V)} (hf : MemN 8 D f) : Ev (st57 x0 x1 x2 x3 x4 x5 x6 x7 b8 x9 x10 x11 x12) (.L0 1 f) r := by
 refine sort_ind (N := 8) (D := D) (P0 := fun i f => Ev (st57 x0 x1 x2 x3 x4 x5 x6 x7 b8 x9 x10 x11 x12) (.L0 (i : Int) f) r) (P1 := fun j i f => Ev (st57 x0 x1 x2 x3 x4 x5 x6 x7 b8 x9 x10 x11 x12) (.L1 (j : Int) (i : Int) f) r) ?_ ?_ ?_ ?_ 7 1 f rfl (Nat.le_refl _) (fun a b h1 h2 => by omega) hf
 ·intro i f h1 h2 h
  exact Ev.of rfl (evBrT (dqt (by omega)) (evEnter h))
 ·intro f hs hm
  exact Ev.of rfl (evBrF (dqf (by omega)) (evBrf (evEnter (h2 _ _ _ hs hm))))
 ·intro j i f h0 hji hi hm hlt h
  have e := wm1 h0 (by omega)
  have hC : decide (0 < (j : Int)) = true := dqt (by omega)
  have hlt' := (cmpT (hD _ ((hm _).2 ⟨j, by omega, rfl⟩)) (hD _ ((hm _).2 ⟨j - 1, by omega, rfl⟩))).2 hlt
  refine Ev.of rfl (evObi (evObi (evObj (fun _ => dqt (by first | omega | (rw [e]; omega))) (evObi (evObj (fun _ => dqt (by first | omega | (rw [e]; omega))) (evObi (evObi (evObi (evObj (fun _ => dqt (by first | omega | (rw [e]; omega))) (evObi (evObj (fun _ => dqt (by first | omega | (rw [e]; omega))) (evBrT hC (evOb hC (evOb hC (evOb hC (evObc (evObt (evBrT ?_
   (evOb (dqt (by first | omega | (rw [e]; omega))) (evOb (dqt (by first | omega | (rw [e]; omega))) (evOb (dqt (by first | omega | (rw [e]; omega))) (evOb (dqt (by first | omega | (rw [e]; omega))) (evOb (dqt (by first | omega | (rw [e]; omega))) (evOb (dqt (by first | omega | (rw [e]; omega))) (evOb (dqt (by first | omega | (rw [e]; omega))) (evOb (dqt (by first | omega | (rw [e]; omega))) (evNext ?_)))))))))))))))))))))))))))
  ·rw [e]; exact hlt'
  ·rw [e]; exact h
 ·intro j i f hji hi hm hn h
  have h' : Ev (st57 x0 x1 x2 x3 x4 x5 x6 x7 b8 x9 x10 x11 x12) (.L0 (i64.wrap ((i : Int) + 1)) (elV ty2 f)) r := by rw [wp1 (by omega)]; exact h
  by_cases h0 : 0 < j
  ·have e := wm1 h0 (by omega)
   have hC : decide (0 < (j : Int)) = true := dqt (by omega)
   have hlt' := fun hh => hn h0 ((cmpT (hD _ ((hm _).2 ⟨j, by omega, rfl⟩)) (hD _ ((hm _).2 ⟨j - 1, by omega, rfl⟩))).1 hh)
   refine Ev.of rfl (evObi (evObi (evObj (fun _ => dqt (by first | omega | (rw [e]; omega))) (evObi (evObj (fun _ => dqt (by first | omega | (rw [e]; omega))) (evObi (evObi (evObi (evObj (fun _ => dqt (by first | omega | (rw [e]; omega))) (evObi (evObj (fun _ => dqt (by first | omega | (rw [e]; omega))) (evBrT hC (evOb hC (evOb hC (evOb hC (evObc (evObt (evBrF ?_ (evNext h')))))))))))))))))))
   rw [e]; exact Bool.eq_false_iff.2 hlt'
  ·have hC : decide (0 < (j : Int)) = false := dqf (by omega)
   have hx : ∀ {b : Bool}, decide (0 < (j : Int)) = true -> b = true := fun hh => by rw [hC] at hh; cases hh
   exact Ev.of rfl (evObi (evObi (evObj hx (evObi (evObj hx (evObi (evObi (evObi (evObj hx (evObi (evObj hx (evBrF hC (evNext h')))))))))))))
theorem cmp57 (x0 x1 x2 x3 x4 x5 x6 x7 : Int) (b8 : Bool) (x9 x10 x11 x12 : Int) {r : V} {D : P2 -> Prop} (h4 : ∀ f j g, SSr 8 f -> MemN 8 D f -> Ev (st57 x0 x1 x2 x3 x4 x5 x6 x7 b8 x9 x10 x11 x12) (.L4 0 f 0 (fun _ => []) j g) r) (h5 : ∀ m f, 1 <= m -> m < 3 -> SSr m f -> MemN m D f -> Ev (st57 x0 x1 x2 x3 x4 x5 x6 x7 b8 x9 x10 x11 x12) (.L5 0 (m : Int) m (decide (2 < (m : Int))) 8 f) r)
 (h12 : ∀ m f i n1 n2 i1 i2 i3 n3 i4 g, 3 <= m -> m < 8 -> SSr m f -> MemN m D f -> Ev (st57 x0 x1 x2 x3 x4 x5 x6 x7 b8 x9 x10 x11 x12) (.L12 0 (m : Int) m f 0 (fun _ => []) i n1 n2 i1 i2 i3 n3 i4 (m : Int) g) r) {f : (Nat -> List V)} (j : Int) (g : (Nat -> List V)) (hs : Srt 8 f) (hf : MemN 8 D f) : Ev (st57 x0 x1 x2 x3 x4 x5 x6 x7 b8 x9 x10 x11 x12) (.L2 1 f j g) r := by
 refine comp_ind (N := 8) (D := D) (P2' := fun i f => ∀ j g, Ev (st57 x0 x1 x2 x3 x4 x5 x6 x7 b8 x9 x10 x11 x12) (.L2 (i : Int) f j g) r) (P3 := fun k off m f => ∀ i1 i2 i3 n i4 i5 g, Ev (st57 x0 x1 x2 x3 x4 x5 x6 x7 b8 x9 x10 x11 x12) (.L3 (k : Int) off (8 - off) i1 i2 i3 n i4 (m : Int) f i5 g) r) ?_ ?_ ?_ ?_ ?_ ?_ 7 1 f rfl (Nat.le_refl _) hs (fun a b h1 h2 => by omega) hf j g
 ·intro f hs hm j g
  exact Ev.of rfl (evBrF (dqf (by omega)) (evBrf (evEnter (h4 _ _ _ hs hm))))
 ·intro i f h1 h8 hne h j g
  have e := wm1 (show 0 < i by omega) (by omega)
  refine Ev.of rfl (evBrT (dqt (by omega)) (evOb (dqt (by first | omega | (rw [e]; omega))) (evOb (dqt (by first | omega | (rw [e]; omega))) (evOb (dqt (by first | omega | (rw [e]; omega))) (evOb (dqt (by first | omega | (rw [e]; omega))) (evBrF ?_ (evNext ?_)))))))
  ·rw [e]; exact (eqB _ _ _ _).trans (dqf hne)
  ·rw [wp1 (by omega)]; exact h j g
 ·intro i f h1 h8 he h j g
  have e := wm1 (show 0 < i by omega) (by omega)
  refine Ev.of rfl (evBrT (dqt (by omega)) (evOb (dqt (by first | omega | (rw [e]; omega))) (evOb (dqt (by first | omega | (rw [e]; omega))) (evOb (dqt (by first | omega | (rw [e]; omega))) (evOb (dqt (by first | omega | (rw [e]; omega))) (evBrT ?_ (evOb (dqt (by omega)) (evEnter (h _ _ _ _ _ _ _)))))))))
  rw [e]; exact (eqB _ _ _ _).trans (dqt he)
 ·intro k off m f h1 hN hm hmk hne h i1 i2 i3 n i4 i5 g
  have e := wm1 (show 0 < k by omega) (by omega)
  refine Ev.of rfl (evBrT (dqt (by omega)) (evOb (dqt (by first | omega | (rw [e]; omega))) (evOb (dqt (by first | omega | (rw [e]; omega))) (evOb (dqt (by first | omega | (rw [e]; omega))) (evOb (dqt (by first | omega | (rw [e]; omega))) (evBrT ?_ (evOb (dqt (by first | omega | (rw [e]; omega))) (evOb (dqt (by first | omega | (rw [e]; omega))) (evOb (dqt (by first | omega | (rw [e]; omega))) (evOb (dqt (by first | omega | (rw [e]; omega))) (evNext ?_)))))))))))
  ·rw [e]; exact ntT ((eqB _ _ _ _).trans (dqf hne))
  ·rw [wp1 (j := k) (by omega), wp1 (j := m) (by omega)]; exact h _ _ _ _ _ _ _
 ·intro k off m f h1 hN hm hmk he h i1 i2 i3 n i4 i5 g
  have e := wm1 (show 0 < k by omega) (by omega)
  refine Ev.of rfl (evBrT (dqt (by omega)) (evOb (dqt (by first | omega | (rw [e]; omega))) (evOb (dqt (by first | omega | (rw [e]; omega))) (evOb (dqt (by first | omega | (rw [e]; omega))) (evOb (dqt (by first | omega | (rw [e]; omega))) (evBrF ?_ (evNext ?_)))))))
  ·rw [e]; exact ntF ((eqB _ _ _ _).trans (dqt he))
  ·rw [wp1 (j := k) (by omega)]; exact h _ _ _ _ _ _ _
 ·intro off m f hoff hm1 hmN hs hm i1 i2 i3 n i4 i5 g
  refine Ev.of rfl (evBrF (dqf (by omega)) (evOb (dqt (by omega)) (evOb (dqt (by omega)) (evOb (dqt (by omega)) (evBr (fun hh => evEnter ?_) (fun hh => evEnter ?_))))))
  ·have := of_decide_eq_true hh
   exact h5 m _ hm1 (by omega) (hs.cong fun k hk => pq_clr hk) (hm.cong fun k hk => pq_clr hk)
  ·have := of_decide_eq_false hh
   exact h12 m _ _ _ _ _ _ _ _ _ _ (by omega) hmN (hs.cong fun k hk => pq_clr hk) (hm.cong fun k hk => pq_clr hk)
theorem pmem {c : List P2} {i : Nat} (h : i < c.length) : pAt c i ∈ c := by
 have := pAt_some h
 exact List.mem_of_getElem? this
theorem sdX {fo : Nat -> List V} {p : P2} {n : Nat} {s : Int} (w1 : i64.wrap ((n : Int) - 1) = ((n - 1 : Nat) : Int)) (w2 : i64.wrap ((n : Int) - 2) = ((n - 2 : Nat) : Int)) (e : F78_0 (pq fo (n - 2)).1 (pq fo (n - 2)).2 (pq fo (n - 1)).1 (pq fo (n - 1)).2 p.1 p.2 = s) :
 decide (F78_0 (jv0 (fo (i64.wrap ((n : Int) - 2)).toNat)) (jv1 (fo (i64.wrap ((n : Int) - 2)).toNat)) (jv0 (fo (i64.wrap ((n : Int) - 1)).toNat)) (jv1 (fo (i64.wrap ((n : Int) - 1)).toNat)) p.1 p.2 <= 0) = decide (s <= 0) := by
 rw [w1, w2, ← e]; rfl
theorem secA (x0 x1 x2 x3 x4 x5 x6 x7 : Int) (b8 : Bool) (x9 x10 x11 x12 : Int) {r : V} {c : List P2} {bl : Nat} {base : List P2} {f : (Nat -> List V)} (hf : ptL 8 f = c) (hsm : ∀ q ∈ c, SmP q) (hb : ∀ q ∈ base, SmP q) (hbl : base.length = bl) (hb8 : bl <= 8)
 (h5 : ∀ n fo cap, n <= cap -> cap <= 100 -> ptL n fo = base ++ (chainS [] c).tail.reverse -> n = base.length + (chainS [] c).tail.length -> Ev (st57 x0 x1 x2 x3 x4 x5 x6 x7 b8 x9 x10 x11 x12) (.L5 0 (n : Int) n (decide (2 < (n : Int))) cap fo) r)
 {cap : Nat} {fo : (Nat -> List V)} (hc : bl <= cap) (hcM : cap <= 50) (hfo : ptL bl fo = base) (i5 : Int) (i6 : Int) (f7 : (Nat -> List V)) (f8 : (Nat -> List V)) (i9 : Int) (f10 : (Nat -> List V)) : Ev (st57 x0 x1 x2 x3 x4 x5 x6 x7 b8 x9 x10 x11 x12) (.L18 (bl : Int) f bl cap fo i5 i6 f7 f8 i9 f10) r := by
 have hcl : c.length = 8 := by rw [← hf, ptL_len]
 have ew := wp1 (j := bl) (by omega)
 have e0 : i64.wrap (0 + 1) = ((1 : Nat) : Int) := by rw [wrapI (by omega) (by omega)]; rfl
 have at' : ∀ (g : (Nat -> List V)), (∀ k, k < 8 -> pq g k = pq f k) -> ∀ i, i < 8 -> pAt c i = pq g i := fun g hg i hi => by rw [hg i hi, ← hf]; exact ptL_pAt hi
 have key := chain_ind (base := base) (c := c) (M := bl + 8) (by omega)
  (PO := fun i n fo => ∀ (g : (Nat -> List V)) (ix : Int) (iy : Int) (i7 : Int) (i8 : Int) (f9 : (Nat -> List V)) (n10 : Nat) (n11 : Nat) (f12 : (Nat -> List V)) (i13 : Int) (f14 : (Nat -> List V)), (∀ k, k < 8 -> pq g k = pq f k) -> Ev (st57 x0 x1 x2 x3 x4 x5 x6 x7 b8 x9 x10 x11 x12) (.L22 (i : Int) (bl : Int) g n ix iy fo i7 i8 f9 n10 n11 f12 i13 f14) r)
  (PI := fun i n cap fo => ∀ (g : (Nat -> List V)) (i7 : Int) (i8 : Int) (f9 : (Nat -> List V)) (n10 : Nat) (n11 : Nat) (f12 : (Nat -> List V)) (i13 : Int) (f14 : (Nat -> List V)), (∀ k, k < 8 -> pq g k = pq f k) -> Ev (st57 x0 x1 x2 x3 x4 x5 x6 x7 b8 x9 x10 x11 x12) (.L23 (i : Int) (bl : Int) g n (pAt c i).1 (pAt c i).2 cap fo i7 i8 f9 n10 n11 f12 i13 f14) r) ?_ ?_ ?_ ?_
 ·-- the first round
  obtain ⟨p, l, ec⟩ : ∃ p l, c = p :: l := by
   cases c with
   | nil => simp at hcl
   | cons p l => exact ⟨p, l, rfl⟩
  have hp : pq f 0 = p := by
   have := at' f (fun _ _ => rfl) 0 (by omega)
   rw [← this, ec]; rfl
  subst hp
  have k1 := key l [pq f 0] [pq f 0] (bl + 1) (joinF bl (elV ty2 fo) fun _ => pv2 (pq f 0)) (by rw [ec]; rfl) (by rw [ec]; rfl) (by rw [ptL_snoc, hfo]; rfl) (Nat.le_refl _) (fun q hq => by rw [ec]; simp at hq; simp [hq])
  have T0 : ∀ (i7 : Int) (i8 : Int) (f9 : (Nat -> List V)) (n10 : Nat) (f11 : (Nat -> List V)) (i12 : Int) (f13 : (Nat -> List V)), Ev (st57 x0 x1 x2 x3 x4 x5 x6 x7 b8 x9 x10 x11 x12) (.L20 (bl : Int) (elV ty2 f) bl cap (elV ty2 fo) (pq f 0).1 (pq f 0).2 i7 i8 f9 n10 f11 i12 f13) r := by
   intro i7 i8 f9 n10 f11 i12 f13
   have hC : decide (i64.wrap ((bl : Int) + 1) < (bl : Int)) = false := dqf (by rw [ew]; omega)
   have hx : ∀ {P : Prop}, decide (i64.wrap ((bl : Int) + 1) < (bl : Int)) = true -> P := fun hh => by rw [hC] at hh; cases hh
   refine Ev.of rfl (inStep hx hx hx fun _ => evObt (evOb (app_ok hc (by omega)) (evNext ?_)))
   rw [e0]
   exact k1 (elV ty2 f) _ _ _ _ _ _ _ _ _ _ (fun k hk => rfl)
  exact Ev.of rfl (evBrt (evObt (evObt (evEnter (T0 _ _ _ _ _ _ _)))))
 ·intro i n fo hi hn h g ix iy i7 i8 f9 n10 n11 f12 i13 f14 hg
  rw [hcl] at hi
  have e := at' g hg i hi
  have h' := h
  rw [e] at h'
  exact Ev.of rfl (evBrT (dqt (by omega)) (evOb (dqt (by omega)) (evOb (dqt (by omega)) (evEnter (h' (elV ty2 g) _ _ _ _ _ _ _ _ (fun k hk => hg k hk))))))
 ·intro i n cap fo hi h1 h2 h3' hel hs h g i7 i8 f9 n10 n11 f12 i13 f14 hg
  have hb2 : bl + 1 < n := by rw [← hbl]; exact h1
  have w1 := wm1 (j := n) (by omega) (by omega)
  have w2 := wm2 (j := n) (by omega) (by omega)
  have sm : ∀ k, k < n -> SmP (pq fo k) := fun k hk => (hel k hk).elim (hb _) (hsm _)
  have e3 := sdT (sm (n - 2) (by omega)) (sm (n - 1) (by omega)) (hsm (pAt c i) (pmem hi))
  have hC : decide (i64.wrap ((bl : Int) + 1) < (n : Int)) = true := dqt (by rw [ew]; omega)
  have hS := sdX (fo := fo) (p := pAt c i) w1 w2 e3
  refine Ev.of rfl (inStep (fun _ => ⟨dqt (by rw [w2]; omega), dqt (by rw [w2]; omega), dqt (by rw [w1]; omega), dqt (by rw [w1]; omega)⟩) (fun _ _ => evOb (dqt (by rw [w1]; omega)) (evNext ?_)) (fun _ hf => by rw [hS, dqt hs] at hf; cases hf) (fun hf => by rw [hC] at hf; cases hf))
  rw [w1]; exact h (elV ty2 g) _ _ _ _ _ _ _ _ (fun k hk => hg k hk)
 ·intro i n cap fo hi h1 hel hs h2 h3' h g i7 i8 f9 n10 n11 f12 i13 f14 hg
  have nx : ∀ (_ : Unit), Ev (st57 x0 x1 x2 x3 x4 x5 x6 x7 b8 x9 x10 x11 x12) (.L22 (i64.wrap ((i : Int) + 1)) (bl : Int) (elV ty2 g) (n + 1) (pAt c i).1 (pAt c i).2 (joinF n (elV ty2 fo) fun _ => pv2 (pAt c i)) i7 i8 f9 n10 n11 f12 i13 f14) r := fun _ => by rw [wp1 (j := i) (by omega)]; exact h (elV ty2 g) _ _ _ _ _ _ _ _ _ _ (fun k hk => hg k hk)
  by_cases hb2 : bl + 1 < n
  ·have w1 := wm1 (j := n) (by omega) (by omega)
   have w2 := wm2 (j := n) (by omega) (by omega)
   have sm : ∀ k, k < n -> SmP (pq fo k) := fun k hk => (hel k hk).elim (hb _) (hsm _)
   have e3 := sdT (sm (n - 2) (by omega)) (sm (n - 1) (by omega)) (hsm (pAt c i) (pmem hi))
   have hC : decide (i64.wrap ((bl : Int) + 1) < (n : Int)) = true := dqt (by rw [ew]; omega)
   have hS := sdX (fo := fo) (p := pAt c i) w1 w2 e3
   have hs' := hs (by first | exact hb2 | (rw [hbl]; exact hb2))
   exact Ev.of rfl (inStep (fun _ => ⟨dqt (by rw [w2]; omega), dqt (by rw [w2]; omega), dqt (by rw [w1]; omega), dqt (by rw [w1]; omega)⟩) (fun _ hf => by rw [hS, dqf (by omega)] at hf; cases hf) (fun _ _ => evObt (evOb (app_ok h2 (by omega)) (evNext (nx ())))) (fun hf => by rw [hC] at hf; cases hf))
  ·have hC : decide (i64.wrap ((bl : Int) + 1) < (n : Int)) = false := dqf (by rw [ew]; omega)
   have hx : ∀ {P : Prop}, decide (i64.wrap ((bl : Int) + 1) < (n : Int)) = true -> P := fun hh => by rw [hC] at hh; cases hh
   exact Ev.of rfl (inStep hx hx hx fun _ => evObt (evOb (app_ok h2 (by omega)) (evNext (nx ()))))
 ·intro n fo hpt g ix iy i7 i8 f9 n10 n11 f12 i13 f14 hg
  rw [hcl]
  obtain ⟨q1, q2, q3, q4⟩ := ptL_last hpt (chainS_ne (.inr (by intro h; rw [h] at hcl; simp at hcl)))
  have w1 := wm1 (j := n) q1 (by have := chainS_len (l := c) (st := []); simp only [List.length_nil] at this; omega)
  have hl := chainS_len (l := c) (st := [])
  simp only [List.length_nil] at hl
  have := h5 (n - 1) (elV ty2 fo) n (by omega) (by omega) q2 (by rw [List.length_tail]; omega)
  refine Ev.of rfl (evBrF (dqf (by omega)) (evOb (dqt (by rw [w1]; omega)) (evEnter ?_)))
  rw [w1]; exact this
theorem fstA (x0 x1 x2 x3 x4 x5 x6 x7 : Int) (b8 : Bool) (x9 x10 x11 x12 : Int) {r : V} {f : (Nat -> List V)} (hS : SSr 8 f) (hsm : ∀ q ∈ ptL 8 f, SmP q)
 (h5 : ∀ n fo cap, n <= cap -> cap <= 100 -> ptL n fo = hullL (ptL 8 f) -> n = (hullL (ptL 8 f)).length -> Ev (st57 x0 x1 x2 x3 x4 x5 x6 x7 b8 x9 x10 x11 x12) (.L5 0 (n : Int) n (decide (2 < (n : Int))) cap fo) r) (ia : Int) (fz : (Nat -> List V)) : Ev (st57 x0 x1 x2 x3 x4 x5 x6 x7 b8 x9 x10 x11 x12) (.L4 0 f 0 (fun _ => []) ia fz) r := by
 generalize hc : ptL 8 f = c at *
 have hcl : c.length = 8 := by rw [← hc, ptL_len]
 have e0 : i64.wrap (0 + 1) = ((1 : Nat) : Int) := by rw [wrapI (by omega) (by omega)]; rfl
 have at' : ∀ (g : (Nat -> List V)), (∀ k, k < 8 -> pq g k = pq f k) -> ∀ i, i < 8 -> pAt c i = pq g i := fun g hg i hi => by rw [hg i hi, ← hc]; exact ptL_pAt hi
 have hlA := chainS_len (l := c) (st := [])
 simp only [List.length_nil] at hlA
 have key := chain_ind (base := []) (c := c) (M := 8) (by simp; omega)
  (PO := fun i n fo => ∀ (g : (Nat -> List V)) (ia : Int) (fz : (Nat -> List V)), (∀ k, k < 8 -> pq g k = pq f k) -> Ev (st57 x0 x1 x2 x3 x4 x5 x6 x7 b8 x9 x10 x11 x12) (.L4 (i : Int) g n fo ia fz) r)
  (PI := fun i n cap fo => ∀ (g : (Nat -> List V)) (ia : Int) (fz : (Nat -> List V)), (∀ k, k < 8 -> pq g k = pq f k) -> Ev (st57 x0 x1 x2 x3 x4 x5 x6 x7 b8 x9 x10 x11 x12) (.L7 (i : Int) g n (pAt c i).1 (pAt c i).2 cap fo ia fz) r) ?_ ?_ ?_ ?_
 ·exact key c [] [] 0 (fun _ => []) rfl rfl rfl (Nat.le_refl _) (fun q hq => by cases hq) f ia fz (fun _ _ => rfl)
 ·intro i n fo hi hn h g ia fz hg
  rw [hcl] at hi
  have e := at' g hg i hi
  have h' := h
  rw [e] at h'
  exact Ev.of rfl (evBrT (dqt (by omega)) (evOb (dqt (by omega)) (evOb (dqt (by omega)) (evEnter (h' (elV ty2 g) _ _ (fun k hk => hg k hk))))))
 ·intro i n cap fo hi h1 h2 h3' hel hs h g ia fz hg
  have hb2 : 0 + 1 < n := by simpa using h1
  have w1 := wm1 (j := n) (by omega) (by omega)
  have w2 := wm2 (j := n) (by omega) (by omega)
  have sm : ∀ k, k < n -> SmP (pq fo k) := fun k hk => (hel k hk).elim (fun h => by cases h) (hsm _)
  have e3 := sdT (sm (n - 2) (by omega)) (sm (n - 1) (by omega)) (hsm (pAt c i) (pmem hi))
  have hC : decide (i64.wrap (0 + 1) < (n : Int)) = true := dqt (by rw [e0]; omega)
  have hS := sdX (fo := fo) (p := pAt c i) w1 w2 e3
  refine Ev.of rfl (inStep (fun _ => ⟨dqt (by rw [w2]; omega), dqt (by rw [w2]; omega), dqt (by rw [w1]; omega), dqt (by rw [w1]; omega)⟩) (fun _ _ => evOb (dqt (by rw [w1]; omega)) (evNext ?_)) (fun _ hf => by rw [hS, dqt hs] at hf; cases hf) (fun hf => by rw [hC] at hf; cases hf))
  rw [w1]; exact h (elV ty2 g) _ _ (fun k hk => hg k hk)
 ·intro i n cap fo hi h1 hel hs h2 h3' h g ia fz hg
  have nx : ∀ (_ : Unit), Ev (st57 x0 x1 x2 x3 x4 x5 x6 x7 b8 x9 x10 x11 x12) (.L4 (i64.wrap ((i : Int) + 1)) (elV ty2 g) (n + 1) (joinF n (elV ty2 fo) fun _ => pv2 (pAt c i)) ia fz) r := fun _ => by rw [wp1 (j := i) (by omega)]; exact h (elV ty2 g) _ _ (fun k hk => hg k hk)
  by_cases hb2 : 0 + 1 < n
  ·have w1 := wm1 (j := n) (by omega) (by omega)
   have w2 := wm2 (j := n) (by omega) (by omega)
   have sm : ∀ k, k < n -> SmP (pq fo k) := fun k hk => (hel k hk).elim (fun h => by cases h) (hsm _)
   have e3 := sdT (sm (n - 2) (by omega)) (sm (n - 1) (by omega)) (hsm (pAt c i) (pmem hi))
   have hC : decide (i64.wrap (0 + 1) < (n : Int)) = true := dqt (by rw [e0]; omega)
   have hS := sdX (fo := fo) (p := pAt c i) w1 w2 e3
   have hs' := hs (by simpa using hb2)
   exact Ev.of rfl (inStep (fun _ => ⟨dqt (by rw [w2]; omega), dqt (by rw [w2]; omega), dqt (by rw [w1]; omega), dqt (by rw [w1]; omega)⟩) (fun _ hf => by rw [hS, dqf (by omega)] at hf; cases hf) (fun _ _ => evObt (evOb (app_ok h2 (by omega)) (evNext (nx ())))) (fun hf => by rw [hC] at hf; cases hf))
  ·have hC : decide (i64.wrap (0 + 1) < (n : Int)) = false := dqf (by rw [e0]; omega)
   have hx : ∀ {P : Prop}, decide (i64.wrap (0 + 1) < (n : Int)) = true -> P := fun hh => by rw [hC] at hh; cases hh
   exact Ev.of rfl (inStep hx hx hx fun _ => evObt (evOb (app_ok h2 (by omega)) (evNext (nx ()))))
 ·intro n fo hpt g ia fz hg
  rw [hcl]
  obtain ⟨q1, q2, q3, q4⟩ := ptL_last hpt (chainS_ne (.inr (by intro h; rw [h] at hcl; simp at hcl)))
  simp only [List.length_nil, Nat.zero_add, List.nil_append] at q2 q3
  have w1 := wm1 (j := n) q1 (by omega)
  have wN : i64.wrap ((8 : Int) - 1) = ((8 - 1 : Nat) : Int) := by rw [wrapI (by omega) (by omega)]; rfl
  refine Ev.of rfl (evBrF (dqf (by omega)) (evOb (dqt (by rw [w1]; omega)) (evEnter ?_)))
  rw [w1, wN]
  have rev := rev_ind (N := 8) (g := pq f) (P := fun i j f2 => ∀ (fo2 : (Nat -> List V)) (ia : Int) (fz : (Nat -> List V)), (∀ k, pq fo2 k = pq fo k) -> Ev (st57 x0 x1 x2 x3 x4 x5 x6 x7 b8 x9 x10 x11 x12) (.L13 (j : Int) (i : Int) f2 (n - 1) n fo2 ia fz) r) ?_ ?_
  ·exact rev 8 0 (8 - 1) (elV ty2 g) (by omega) (by omega) (fun k hk => by rw [if_neg (by omega)]; exact hg k hk) (elV ty2 fo) _ _ (fun _ => rfl)
  ·intro i j f2 hij hj h fo2 ia fz hfo2
   have v1 := wm1 (j := j) (by omega) (by omega)
   have v2 := wp1 (j := i) (by omega)
   refine Ev.of rfl (evBrT (dqt (by omega)) (evOb (dqt (by omega)) (evOb (dqt (by omega)) (evOb (dqt (by omega)) (evOb (dqt (by omega)) (evOb (dqt (by omega)) (evOb (dqt (by omega)) (evOb (dqt (by omega)) (evOb (dqt (by omega)) (evNext ?_))))))))))
   rw [v1, v2]; exact h (elV ty2 fo2) _ _ (fun k => hfo2 k)
  ·intro i j f2 hij hf2 fo2 ia fz hfo2
   have hb : ptL (n - 1) fo2 = (chainS [] c).tail.reverse := by rw [ptL_cong fun k _ => hfo2 k]; exact q2
   have hrv : ptL 8 f2 = c.reverse := by rw [← hc]; exact ptL_rev hf2
   have hlt : (chainS [] c).tail.reverse.length = n - 1 := by rw [List.length_reverse, List.length_tail, ← q3]
   have hu : hullL c = (chainS [] c).tail.reverse ++ (chainS [] c.reverse).tail.reverse := hullL_eq (by omega)
   have hbs : ∀ q ∈ (chainS [] c).tail.reverse, SmP q := fun q hq => by
    rcases chainS_sub (List.mem_of_mem_tail (List.mem_reverse.1 hq)) with h | h
    ·cases h
    ·exact hsm q h
   have fin := secA x0 x1 x2 x3 x4 x5 x6 x7 b8 x9 x10 x11 x12  (r := r) (c := c.reverse) (base := (chainS [] c).tail.reverse) (f := elV ty2 f2) hrv (fun q hq => hsm q (List.mem_reverse.1 hq)) hbs hlt (by omega) (fun n fo cap k1 k2 k3 k4 => h5 n fo cap k1 k2 (by rw [hu]; exact k3) (by rw [hu, List.length_append, k4]; congr 1; exact (List.length_reverse ..).symm)) (cap := n) (fo := elV ty2 fo2) (by omega) (by omega) hb
   exact Ev.of rfl (evBrF (dqf (by omega)) (evEnter (fin _ _ _ _ _ _)))
theorem secB (x0 x1 x2 x3 x4 x5 x6 x7 : Int) (b8 : Bool) (x9 x10 x11 x12 : Int) {r : V} {N : Nat} {c : List P2} {bl : Nat} {base : List P2} {f : (Nat -> List V)} (h3 : 3 <= N) (h8 : N <= 8) (hf : ptL N f = c) (hsm : ∀ q ∈ c, SmP q) (hb : ∀ q ∈ base, SmP q) (hbl : base.length = bl) (hb8 : bl <= 8)
 (h5 : ∀ n fo cap, n <= cap -> cap <= 100 -> ptL n fo = base ++ (chainS [] c).tail.reverse -> n = base.length + (chainS [] c).tail.length -> Ev (st57 x0 x1 x2 x3 x4 x5 x6 x7 b8 x9 x10 x11 x12) (.L5 0 (n : Int) n (decide (2 < (n : Int))) cap fo) r)
 {cap : Nat} {fo : (Nat -> List V)} (hc : bl <= cap) (hcM : cap <= 50) (hfo : ptL bl fo = base) (i7 : Int) (i8 : Int) (i9 : Int) (n10 : Nat) (f11 : (Nat -> List V)) (f12 : (Nat -> List V)) (i13 : Int) (n14 : Nat) (n15 : Nat) (i16 : Int) (i17 : Int) (i18 : Int) (n19 : Nat) (i20 : Int) (i21 : Int) (f22 : (Nat -> List V)) : Ev (st57 x0 x1 x2 x3 x4 x5 x6 x7 b8 x9 x10 x11 x12) (.L24 (N : Int) N (bl : Int) f bl cap fo i7 i8 i9 n10 f11 f12 i13 n14 n15 i16 i17 i18 n19 i20 i21 f22) r := by
 have hcl : c.length = N := by rw [← hf, ptL_len]
 have ew := wp1 (j := bl) (by omega)
 have e0 : i64.wrap (0 + 1) = ((1 : Nat) : Int) := by rw [wrapI (by omega) (by omega)]; rfl
 have at' : ∀ (g : (Nat -> List V)), (∀ k, k < N -> pq g k = pq f k) -> ∀ i, i < N -> pAt c i = pq g i := fun g hg i hi => by rw [hg i hi, ← hf]; exact ptL_pAt hi
 have key := chain_ind (base := base) (c := c) (M := bl + 8) (by omega)
  (PO := fun i n fo => ∀ (g : (Nat -> List V)) (ix : Int) (iy : Int) (i09 : Int) (i10 : Int) (i11 : Int) (n12 : Nat) (f13 : (Nat -> List V)) (n14 : Nat) (n15 : Nat) (f16 : (Nat -> List V)) (i17 : Int) (n18 : Nat) (n19 : Nat) (i20 : Int) (i21 : Int) (i22 : Int) (n23 : Nat) (i24 : Int) (i25 : Int) (f26 : (Nat -> List V)), (∀ k, k < N -> pq g k = pq f k) -> Ev (st57 x0 x1 x2 x3 x4 x5 x6 x7 b8 x9 x10 x11 x12) (.L26 (i : Int) (N : Int) N (bl : Int) g n ix iy fo i09 i10 i11 n12 f13 n14 n15 f16 i17 n18 n19 i20 i21 i22 n23 i24 i25 f26) r)
  (PI := fun i n cap fo => ∀ (g : (Nat -> List V)) (i09 : Int) (i10 : Int) (i11 : Int) (n12 : Nat) (f13 : (Nat -> List V)) (n14 : Nat) (n15 : Nat) (f16 : (Nat -> List V)) (i17 : Int) (n18 : Nat) (n19 : Nat) (i20 : Int) (i21 : Int) (i22 : Int) (n23 : Nat) (i24 : Int) (i25 : Int) (f26 : (Nat -> List V)), (∀ k, k < N -> pq g k = pq f k) -> Ev (st57 x0 x1 x2 x3 x4 x5 x6 x7 b8 x9 x10 x11 x12) (.L27 (i : Int) (N : Int) N (bl : Int) g n (pAt c i).1 (pAt c i).2 cap fo i09 i10 i11 n12 f13 n14 n15 f16 i17 n18 n19 i20 i21 i22 n23 i24 i25 f26) r) ?_ ?_ ?_ ?_
 ·-- the first round
  obtain ⟨p, l, ec⟩ : ∃ p l, c = p :: l := by
   cases c with
   | nil => simp at hcl; omega
   | cons p l => exact ⟨p, l, rfl⟩
  have hp : pq f 0 = p := by
   have := at' f (fun _ _ => rfl) 0 (by omega)
   rw [← this, ec]; rfl
  subst hp
  have k1 := key l [pq f 0] [pq f 0] (bl + 1) (joinF bl (elV ty2 fo) fun _ => pv2 (pq f 0)) (by rw [ec]; rfl) (by rw [ec]; rfl) (by rw [ptL_snoc, hfo]; rfl) (Nat.le_refl _) (fun q hq => by rw [ec]; simp at hq; simp [hq])
  have T0 : ∀ (i09 : Int) (i10 : Int) (i11 : Int) (n12 : Nat) (f13 : (Nat -> List V)) (n14 : Nat) (f15 : (Nat -> List V)) (i16 : Int) (n17 : Nat) (n18 : Nat) (i19 : Int) (i20 : Int) (i21 : Int) (n22 : Nat) (i23 : Int) (i24 : Int) (f25 : (Nat -> List V)), Ev (st57 x0 x1 x2 x3 x4 x5 x6 x7 b8 x9 x10 x11 x12) (.L25 (N : Int) N (bl : Int) (elV ty2 f) bl cap (elV ty2 fo) (pq f 0).1 (pq f 0).2 i09 i10 i11 n12 f13 n14 f15 i16 n17 n18 i19 i20 i21 n22 i23 i24 f25) r := by
   intro i09 i10 i11 n12 f13 n14 f15 i16 n17 n18 i19 i20 i21 n22 i23 i24 f25
   have hC : decide (i64.wrap ((bl : Int) + 1) < (bl : Int)) = false := dqf (by rw [ew]; omega)
   have hx : ∀ {P : Prop}, decide (i64.wrap ((bl : Int) + 1) < (bl : Int)) = true -> P := fun hh => by rw [hC] at hh; cases hh
   refine Ev.of rfl (inStep hx hx hx fun _ => evObt (evOb (app_ok hc (by omega)) (evNext ?_)))
   rw [e0]
   exact k1 (elV ty2 f) _ _ _ _ _ _ _ _ _ _ _ _ _ _ _ _ _ _ _ _ (fun k hk => rfl)
  exact Ev.of rfl (evBrT (dqt (by omega)) (evOb (dqt (by omega)) (evObt (evEnter (T0 _ _ _ _ _ _ _ _ _ _ _ _ _ _ _ _ _)))))
 ·intro i n fo hi hn h g ix iy i09 i10 i11 n12 f13 n14 n15 f16 i17 n18 n19 i20 i21 i22 n23 i24 i25 f26 hg
  rw [hcl] at hi
  have e := at' g hg i hi
  have h' := h
  rw [e] at h'
  exact Ev.of rfl (evBrT (dqt (by omega)) (evOb (dqt (by omega)) (evOb (dqt (by omega)) (evEnter (h' (elV ty2 g) _ _ _ _ _ _ _ _ _ _ _ _ _ _ _ _ _ _ (fun k hk => hg k hk))))))
 ·intro i n cap fo hi h1 h2 h3' hel hs h g i09 i10 i11 n12 f13 n14 n15 f16 i17 n18 n19 i20 i21 i22 n23 i24 i25 f26 hg
  have hb2 : bl + 1 < n := by rw [← hbl]; exact h1
  have w1 := wm1 (j := n) (by omega) (by omega)
  have w2 := wm2 (j := n) (by omega) (by omega)
  have sm : ∀ k, k < n -> SmP (pq fo k) := fun k hk => (hel k hk).elim (hb _) (hsm _)
  have e3 := sdT (sm (n - 2) (by omega)) (sm (n - 1) (by omega)) (hsm (pAt c i) (pmem hi))
  have hC : decide (i64.wrap ((bl : Int) + 1) < (n : Int)) = true := dqt (by rw [ew]; omega)
  have hS := sdX (fo := fo) (p := pAt c i) w1 w2 e3
  refine Ev.of rfl (inStep (fun _ => ⟨dqt (by rw [w2]; omega), dqt (by rw [w2]; omega), dqt (by rw [w1]; omega), dqt (by rw [w1]; omega)⟩) (fun _ _ => evOb (dqt (by rw [w1]; omega)) (evNext ?_)) (fun _ hf => by rw [hS, dqt hs] at hf; cases hf) (fun hf => by rw [hC] at hf; cases hf))
  rw [w1]; exact h (elV ty2 g) _ _ _ _ _ _ _ _ _ _ _ _ _ _ _ _ _ _ (fun k hk => hg k hk)
 ·intro i n cap fo hi h1 hel hs h2 h3' h g i09 i10 i11 n12 f13 n14 n15 f16 i17 n18 n19 i20 i21 i22 n23 i24 i25 f26 hg
  have nx : ∀ (_ : Unit), Ev (st57 x0 x1 x2 x3 x4 x5 x6 x7 b8 x9 x10 x11 x12) (.L26 (i64.wrap ((i : Int) + 1)) (N : Int) N (bl : Int) (elV ty2 g) (n + 1) (pAt c i).1 (pAt c i).2 (joinF n (elV ty2 fo) fun _ => pv2 (pAt c i)) i09 i10 i11 n12 f13 n14 n15 f16 i17 n18 n19 i20 i21 i22 n23 i24 i25 f26) r := fun _ => by rw [wp1 (j := i) (by omega)]; exact h (elV ty2 g) _ _ _ _ _ _ _ _ _ _ _ _ _ _ _ _ _ _ _ _ (fun k hk => hg k hk)
  by_cases hb2 : bl + 1 < n
  ·have w1 := wm1 (j := n) (by omega) (by omega)
   have w2 := wm2 (j := n) (by omega) (by omega)
   have sm : ∀ k, k < n -> SmP (pq fo k) := fun k hk => (hel k hk).elim (hb _) (hsm _)
   have e3 := sdT (sm (n - 2) (by omega)) (sm (n - 1) (by omega)) (hsm (pAt c i) (pmem hi))
   have hC : decide (i64.wrap ((bl : Int) + 1) < (n : Int)) = true := dqt (by rw [ew]; omega)
   have hS := sdX (fo := fo) (p := pAt c i) w1 w2 e3
   have hs' := hs (by first | exact hb2 | (rw [hbl]; exact hb2))
   exact Ev.of rfl (inStep (fun _ => ⟨dqt (by rw [w2]; omega), dqt (by rw [w2]; omega), dqt (by rw [w1]; omega), dqt (by rw [w1]; omega)⟩) (fun _ hf => by rw [hS, dqf (by omega)] at hf; cases hf) (fun _ _ => evObt (evOb (app_ok h2 (by omega)) (evNext (nx ())))) (fun hf => by rw [hC] at hf; cases hf))
  ·have hC : decide (i64.wrap ((bl : Int) + 1) < (n : Int)) = false := dqf (by rw [ew]; omega)
   have hx : ∀ {P : Prop}, decide (i64.wrap ((bl : Int) + 1) < (n : Int)) = true -> P := fun hh => by rw [hC] at hh; cases hh
   exact Ev.of rfl (inStep hx hx hx fun _ => evObt (evOb (app_ok h2 (by omega)) (evNext (nx ()))))
 ·intro n fo hpt g ix iy i09 i10 i11 n12 f13 n14 n15 f16 i17 n18 n19 i20 i21 i22 n23 i24 i25 f26 hg
  rw [hcl]
  obtain ⟨q1, q2, q3, q4⟩ := ptL_last hpt (chainS_ne (.inr (by intro h; rw [h] at hcl; simp at hcl; omega)))
  have w1 := wm1 (j := n) q1 (by have := chainS_len (l := c) (st := []); simp only [List.length_nil] at this; omega)
  have hl := chainS_len (l := c) (st := [])
  simp only [List.length_nil] at hl
  have := h5 (n - 1) (elV ty2 fo) n (by omega) (by omega) q2 (by rw [List.length_tail]; omega)
  refine Ev.of rfl (evBrF (dqf (by omega)) (evOb (dqt (by rw [w1]; omega)) (evEnter ?_)))
  rw [w1]; exact this
theorem fstB (x0 x1 x2 x3 x4 x5 x6 x7 : Int) (b8 : Bool) (x9 x10 x11 x12 : Int) {r : V} {N : Nat} {f : (Nat -> List V)} (h3 : 3 <= N) (h8 : N <= 8) (hS : SSr N f) (hsm : ∀ q ∈ ptL N f, SmP q)
 (h5 : ∀ n fo cap, n <= cap -> cap <= 100 -> ptL n fo = hullL (ptL N f) -> n = (hullL (ptL N f)).length -> Ev (st57 x0 x1 x2 x3 x4 x5 x6 x7 b8 x9 x10 x11 x12) (.L5 0 (n : Int) n (decide (2 < (n : Int))) cap fo) r) (ia : Int) (na : Nat) (nb : Nat) (ib : Int) (ic : Int) (id : Int) (nc : Nat) (ie : Int) (fz : (Nat -> List V)) : Ev (st57 x0 x1 x2 x3 x4 x5 x6 x7 b8 x9 x10 x11 x12) (.L12 0 (N : Int) N f 0 (fun _ => []) ia na nb ib ic id nc ie (N : Int) fz) r := by
 generalize hc : ptL N f = c at *
 have hcl : c.length = N := by rw [← hc, ptL_len]
 have e0 : i64.wrap (0 + 1) = ((1 : Nat) : Int) := by rw [wrapI (by omega) (by omega)]; rfl
 have at' : ∀ (g : (Nat -> List V)), (∀ k, k < N -> pq g k = pq f k) -> ∀ i, i < N -> pAt c i = pq g i := fun g hg i hi => by rw [hg i hi, ← hc]; exact ptL_pAt hi
 have hlA := chainS_len (l := c) (st := [])
 simp only [List.length_nil] at hlA
 have key := chain_ind (base := []) (c := c) (M := 8) (by simp; omega)
  (PO := fun i n fo => ∀ (g : (Nat -> List V)) (ia : Int) (na : Nat) (nb : Nat) (ib : Int) (ic : Int) (id : Int) (nc : Nat) (ie : Int) (fz : (Nat -> List V)), (∀ k, k < N -> pq g k = pq f k) -> Ev (st57 x0 x1 x2 x3 x4 x5 x6 x7 b8 x9 x10 x11 x12) (.L12 (i : Int) (N : Int) N g n fo ia na nb ib ic id nc ie (N : Int) fz) r)
  (PI := fun i n cap fo => ∀ (g : (Nat -> List V)) (ia : Int) (na : Nat) (nb : Nat) (ib : Int) (ic : Int) (id : Int) (nc : Nat) (ie : Int) (fz : (Nat -> List V)), (∀ k, k < N -> pq g k = pq f k) -> Ev (st57 x0 x1 x2 x3 x4 x5 x6 x7 b8 x9 x10 x11 x12) (.L14 (i : Int) (N : Int) N g n (pAt c i).1 (pAt c i).2 cap fo ia na nb ib ic id nc ie (N : Int) fz) r) ?_ ?_ ?_ ?_
 ·exact key c [] [] 0 (fun _ => []) rfl rfl rfl (Nat.le_refl _) (fun q hq => by cases hq) f ia na nb ib ic id nc ie fz (fun _ _ => rfl)
 ·intro i n fo hi hn h g ia na nb ib ic id nc ie fz hg
  rw [hcl] at hi
  have e := at' g hg i hi
  have h' := h
  rw [e] at h'
  exact Ev.of rfl (evBrT (dqt (by omega)) (evOb (dqt (by omega)) (evOb (dqt (by omega)) (evEnter (h' (elV ty2 g) _ _ _ _ _ _ _ _ _ (fun k hk => hg k hk))))))
 ·intro i n cap fo hi h1 h2 h3' hel hs h g ia na nb ib ic id nc ie fz hg
  have hb2 : 0 + 1 < n := by simpa using h1
  have w1 := wm1 (j := n) (by omega) (by omega)
  have w2 := wm2 (j := n) (by omega) (by omega)
  have sm : ∀ k, k < n -> SmP (pq fo k) := fun k hk => (hel k hk).elim (fun h => by cases h) (hsm _)
  have e3 := sdT (sm (n - 2) (by omega)) (sm (n - 1) (by omega)) (hsm (pAt c i) (pmem hi))
  have hC : decide (i64.wrap (0 + 1) < (n : Int)) = true := dqt (by rw [e0]; omega)
  have hS := sdX (fo := fo) (p := pAt c i) w1 w2 e3
  refine Ev.of rfl (inStep (fun _ => ⟨dqt (by rw [w2]; omega), dqt (by rw [w2]; omega), dqt (by rw [w1]; omega), dqt (by rw [w1]; omega)⟩) (fun _ _ => evOb (dqt (by rw [w1]; omega)) (evNext ?_)) (fun _ hf => by rw [hS, dqt hs] at hf; cases hf) (fun hf => by rw [hC] at hf; cases hf))
  rw [w1]; exact h (elV ty2 g) _ _ _ _ _ _ _ _ _ (fun k hk => hg k hk)
 ·intro i n cap fo hi h1 hel hs h2 h3' h g ia na nb ib ic id nc ie fz hg
  have nx : ∀ (_ : Unit), Ev (st57 x0 x1 x2 x3 x4 x5 x6 x7 b8 x9 x10 x11 x12) (.L12 (i64.wrap ((i : Int) + 1)) (N : Int) N (elV ty2 g) (n + 1) (joinF n (elV ty2 fo) fun _ => pv2 (pAt c i)) ia na nb ib ic id nc ie (N : Int) fz) r := fun _ => by rw [wp1 (j := i) (by omega)]; exact h (elV ty2 g) _ _ _ _ _ _ _ _ _ (fun k hk => hg k hk)
  by_cases hb2 : 0 + 1 < n
  ·have w1 := wm1 (j := n) (by omega) (by omega)
   have w2 := wm2 (j := n) (by omega) (by omega)
   have sm : ∀ k, k < n -> SmP (pq fo k) := fun k hk => (hel k hk).elim (fun h => by cases h) (hsm _)
   have e3 := sdT (sm (n - 2) (by omega)) (sm (n - 1) (by omega)) (hsm (pAt c i) (pmem hi))
   have hC : decide (i64.wrap (0 + 1) < (n : Int)) = true := dqt (by rw [e0]; omega)
   have hS := sdX (fo := fo) (p := pAt c i) w1 w2 e3
   have hs' := hs (by simpa using hb2)
   exact Ev.of rfl (inStep (fun _ => ⟨dqt (by rw [w2]; omega), dqt (by rw [w2]; omega), dqt (by rw [w1]; omega), dqt (by rw [w1]; omega)⟩) (fun _ hf => by rw [hS, dqf (by omega)] at hf; cases hf) (fun _ _ => evObt (evOb (app_ok h2 (by omega)) (evNext (nx ())))) (fun hf => by rw [hC] at hf; cases hf))
  ·have hC : decide (i64.wrap (0 + 1) < (n : Int)) = false := dqf (by rw [e0]; omega)
   have hx : ∀ {P : Prop}, decide (i64.wrap (0 + 1) < (n : Int)) = true -> P := fun hh => by rw [hC] at hh; cases hh
   exact Ev.of rfl (inStep hx hx hx fun _ => evObt (evOb (app_ok h2 (by omega)) (evNext (nx ()))))
 ·intro n fo hpt g ia na nb ib ic id nc ie fz hg
  rw [hcl]
  obtain ⟨q1, q2, q3, q4⟩ := ptL_last hpt (chainS_ne (.inr (by intro h; rw [h] at hcl; simp at hcl; omega)))
  simp only [List.length_nil, Nat.zero_add, List.nil_append] at q2 q3
  have w1 := wm1 (j := n) q1 (by omega)
  have wN : i64.wrap ((((N : Int)).toNat : Int) - 1) = ((N - 1 : Nat) : Int) := by exact wm1 (by omega) (by omega)
  refine Ev.of rfl (evBrF (dqf (by omega)) (evOb (dqt (by rw [w1]; omega)) (evEnter ?_)))
  rw [w1, wN]
  have rev := rev_ind (N := N) (g := pq f) (P := fun i j f2 => ∀ (fo2 : (Nat -> List V)) (ia : Int) (na : Nat) (nb : Nat) (ib : Int) (ic : Int) (id : Int) (nc : Nat) (ie : Int) (fz : (Nat -> List V)), (∀ k, pq fo2 k = pq fo k) -> Ev (st57 x0 x1 x2 x3 x4 x5 x6 x7 b8 x9 x10 x11 x12) (.L15 (j : Int) (i : Int) (N : Int) N f2 (n - 1) n fo2 ia na nb ib ic id nc ie (N : Int) fz) r) ?_ ?_
  ·exact rev N 0 (N - 1) (elV ty2 g) (by omega) (by omega) (fun k hk => by rw [if_neg (by omega)]; exact hg k hk) (elV ty2 fo) _ _ _ _ _ _ _ _ _ (fun _ => rfl)
  ·intro i j f2 hij hj h fo2 ia na nb ib ic id nc ie fz hfo2
   have v1 := wm1 (j := j) (by omega) (by omega)
   have v2 := wp1 (j := i) (by omega)
   refine Ev.of rfl (evBrT (dqt (by omega)) (evOb (dqt (by omega)) (evOb (dqt (by omega)) (evOb (dqt (by omega)) (evOb (dqt (by omega)) (evOb (dqt (by omega)) (evOb (dqt (by omega)) (evOb (dqt (by omega)) (evOb (dqt (by omega)) (evNext ?_))))))))))
   rw [v1, v2]; exact h (elV ty2 fo2) _ _ _ _ _ _ _ _ _ (fun k => hfo2 k)
  ·intro i j f2 hij hf2 fo2 ia na nb ib ic id nc ie fz hfo2
   have hb : ptL (n - 1) fo2 = (chainS [] c).tail.reverse := by rw [ptL_cong fun k _ => hfo2 k]; exact q2
   have hrv : ptL N f2 = c.reverse := by rw [← hc]; exact ptL_rev hf2
   have hlt : (chainS [] c).tail.reverse.length = n - 1 := by rw [List.length_reverse, List.length_tail, ← q3]
   have hu : hullL c = (chainS [] c).tail.reverse ++ (chainS [] c.reverse).tail.reverse := hullL_eq (by omega)
   have hbs : ∀ q ∈ (chainS [] c).tail.reverse, SmP q := fun q hq => by
    rcases chainS_sub (List.mem_of_mem_tail (List.mem_reverse.1 hq)) with h | h
    ·cases h
    ·exact hsm q h
   have fin := secB x0 x1 x2 x3 x4 x5 x6 x7 b8 x9 x10 x11 x12 h3 h8 (r := r) (c := c.reverse) (base := (chainS [] c).tail.reverse) (f := elV ty2 f2) hrv (fun q hq => hsm q (List.mem_reverse.1 hq)) hbs hlt (by omega) (fun n fo cap k1 k2 k3 k4 => h5 n fo cap k1 k2 (by rw [hu]; exact k3) (by rw [hu, List.length_append, k4]; congr 1; exact (List.length_reverse ..).symm)) (cap := n) (fo := elV ty2 fo2) (by omega) (by omega) hb
   exact Ev.of rfl (evBrF (dqf (by omega)) (evEnter (fin _ _ _ _ _ _ _ _ _ _ _ _ _ _ _ _)))
theorem end57 (x0 x1 x2 x3 x4 x5 x6 x7 : Int) (b8 : Bool) (x9 x10 x11 x12 : Int) (hm : SmP (x5, x6)) (h7 : 0 <= x7) (h8 : x7 <= 1073741824) {L : List P2} (hL : ∀ q ∈ L, SmP q) {m : Nat} {f : (Nat -> List V)} (h1 : 1 <= m) (hs : SSr m f) (hf : MemN m (fun q => q ∈ L) f) {n cap : Nat} {fo : (Nat -> List V)} (k1 : n <= cap) (k2 : cap <= 100) (k3 : ptL n fo = hullL (ptL m f)) (k4 : n = (hullL (ptL m f)).length) :
 Ev (st57 x0 x1 x2 x3 x4 x5 x6 x7 b8 x9 x10 x11 x12) (.L5 0 (n : Int) n (decide (2 < (n : Int))) cap fo) (.bool (refB L (x5, x6) x7)) := by
 have hmem : ∀ q, q ∈ L ↔ q ∈ ptL m f := fun q => (hf q).trans ptL_mem.symm
 have hne : ptL m f ≠ [] := fun h => by have := ptL_len m f; rw [h] at this; simp at this; omega
 have := fin57 x0 x1 x2 x3 x4 x5 x6 x7 b8 x9 x10 x11 x12 hm h7 h8 k1 k2 (by have := hullL_pos (ptL_pw hs) hne; omega) (fun k hk => hL _ ((hmem _).2 (hullL_sub (by rw [← k3]; exact ptL_mem.2 ⟨k, hk, rfl⟩))))
 rw [k3, tp_refB (ptL_pw hs) hne hmem h7] at this
 exact this
theorem all57 (x0 x1 x2 x3 x4 x5 x6 x7 : Int) (b8 : Bool) (x9 x10 x11 x12 : Int) (hb : b8 = false) (hin : In57 x0 x1 x2 x3 x4 x5 x6 x7 x9 x10 x11 x12) {f : (Nat -> List V)} (hf : ptL 8 f = pl57 x0 x1 x2 x3 x4 x9 x10 x11 x12) : Ev (st57 x0 x1 x2 x3 x4 x5 x6 x7 b8 x9 x10 x11 x12) (.L0 1 f) (.bool (F57 x0 x1 x2 x3 x4 x5 x6 x7 b8 x9 x10 x11 x12)) := by
 have hF : F57 x0 x1 x2 x3 x4 x5 x6 x7 b8 x9 x10 x11 x12 = refB (pl57 x0 x1 x2 x3 x4 x9 x10 x11 x12) (x5, x6) x7 := by unfold F57; rw [hb]; rfl
 rw [hF]
 have hL := pl57_sm hin
 have hm : SmP (x5, x6) := ⟨hin.2.2.2.2.2.1, hin.2.2.2.2.2.2.1⟩
 have h7 := hin.2.2.2.2.2.2.2.1
 have sml : ∀ {m : Nat} {f : (Nat -> List V)}, MemN m (fun q => q ∈ pl57 x0 x1 x2 x3 x4 x9 x10 x11 x12) f -> ∀ q ∈ ptL m f, SmP q := fun hm q hq => hL q ((hm q).2 (ptL_mem.1 hq))
 refine srt57 x0 x1 x2 x3 x4 x5 x6 x7 b8 x9 x10 x11 x12 (D := fun q => q ∈ pl57 x0 x1 x2 x3 x4 x9 x10 x11 x12) hL (fun f j g hs hmm => cmp57 x0 x1 x2 x3 x4 x5 x6 x7 b8 x9 x10 x11 x12 ?_ ?_ ?_ j g hs hmm) (fun q => by rw [← hf]; exact ptL_mem)
 ·exact fun f j g hs hmm => fstA x0 x1 x2 x3 x4 x5 x6 x7 b8 x9 x10 x11 x12 hs (sml hmm) (fun n fo cap k1 k2 k3 k4 => end57 x0 x1 x2 x3 x4 x5 x6 x7 b8 x9 x10 x11 x12 hm h7.1 h7.2 hL (by omega) hs hmm k1 k2 k3 k4) j g
 ·exact fun m f h1 h3 hs hmm => end57 x0 x1 x2 x3 x4 x5 x6 x7 b8 x9 x10 x11 x12 hm h7.1 h7.2 hL h1 hs hmm (n := m) (by omega) (by omega) (hull2 (by rw [ptL_len]; exact h3)).symm (by rw [hull2 (by rw [ptL_len]; exact h3), ptL_len])
 ·exact fun m f i n1 n2 i1 i2 i3 n3 i4 g h3 h8 hs hmm => fstB x0 x1 x2 x3 x4 x5 x6 x7 b8 x9 x10 x11 x12 h3 (by omega) hs (sml hmm) (fun n fo cap k1 k2 k3 k4 => end57 x0 x1 x2 x3 x4 x5 x6 x7 b8 x9 x10 x11 x12 hm h7.1 h7.2 hL (by omega) hs hmm k1 k2 k3 k4) i n1 n2 i1 i2 i3 n3 i4 g
theorem ev57_0 (x0 x1 x2 x3 x4 x5 x6 x7 : Int) (b8 : Bool) (x9 x10 x11 x12 : Int) (hp : b8 = false -> In57 x0 x1 x2 x3 x4 x5 x6 x7 x9 x10 x11 x12) : evR (Ev (st57 x0 x1 x2 x3 x4 x5 x6 x7 b8 x9 x10 x11 x12)) (m57 x0 x1 x2 x3 x4 x5 x6 x7 b8 x9 x10 x11 x12) (.bool (F57 x0 x1 x2 x3 x4 x5 x6 x7 b8 x9 x10 x11 x12)) := by
 refine evBr (fun h => evRet ?_) (fun h => ?_)
 ·have : F57 x0 x1 x2 x3 x4 x5 x6 x7 b8 x9 x10 x11 x12 = false := by unfold F57; rw [h]; rfl
  rw [this]; rfl
 ·have e1 : i64.wrap (0 + 1) = 1 := by rw [wrapI (by omega) (by omega)]; rfl
  repeat (first | refine evObt ?_ | refine evObc ?_ | refine evBrt ?_ | refine evBrf ?_)
  refine evEnter ?_
  rw [e1]
  exact all57 x0 x1 x2 x3 x4 x5 x6 x7 b8 x9 x10 x11 x12 h (hp h) rfl
theorem ev57 (x0 x1 x2 x3 x4 x5 x6 x7 : Int) (b8 : Bool) (x9 x10 x11 x12 : Int) (hp : b8 = false -> In57 x0 x1 x2 x3 x4 x5 x6 x7 x9 x10 x11 x12) : evR (Ev (st57 x0 x1 x2 x3 x4 x5 x6 x7 b8 x9 x10 x11 x12)) (m57 x0 x1 x2 x3 x4 x5 x6 x7 b8 x9 x10 x11 x12) (.bool (F57 x0 x1 x2 x3 x4 x5 x6 x7 b8 x9 x10 x11 x12)) := ev57_0 x0 x1 x2 x3 x4 x5 x6 x7 b8 x9 x10 x11 x12 hp
def C57 : PCon := mkC [.agg [.int .i64, .int .i64, .int .i64, .int .i64, .int .i64, .int .i64, .int .i64, .int .i64, .bool], .agg tp4] (fun
 | [.agg [.int _ x0, .int _ x1, .int _ x2, .int _ x3, .int _ x4, .int _ x5, .int _ x6, .int _ x7, .bool b8], .agg [.int _ x9, .int _ x10, .int _ x11, .int _ x12]] => b8 = false -> In57 x0 x1 x2 x3 x4 x5 x6 x7 x9 x10 x11 x12
 | _ => False) fun
 | [.agg [.int _ x0, .int _ x1, .int _ x2, .int _ x3, .int _ x4, .int _ x5, .int _ x6, .int _ x7, .bool b8], .agg [.int _ x9, .int _ x10, .int _ x11, .int _ x12]] => .bool (F57 x0 x1 x2 x3 x4 x5 x6 x7 b8 x9 x10 x11 x12)
 | _ => .any
theorem ok57 : (vP C57).Ok Tryz.prog 57 := mkE tabB29 Tryz.func57 (by kernel_rfl) fun ds hp => rfs (run57 ..) (ev57 _ _ _ _ _ _ _ _ _ _ _ _ _ hp)
end
end Go.Dx
namespace Go.Dx
open Go.Sx
noncomputable section
section
variable {a b c m : P2} {r : Int}
theorem refB_t {L : List P2} (h : RefT (fun q => q ∈ L) m r) : refB L m r = true := @dqt _ (Classical.propDecidable _) h
end
end
end Go.Dx
namespace Go.Dx
open Go.IntKind (i64 u64 u8)
open Go.Sx Go.Proofs
noncomputable section
def ctB30 : CTab := (57, .con C57) :: (131, .con CB131) :: ctB24
theorem tabB30 : TabOk Tryz.prog eqs its ctB30 := .con ok57 (.con okB131 (tabB24))
attribute [local irreducible] F106_0 F110_0
end
end Go.Dx
namespace Go.Dx
open Go.Sx
noncomputable section
theorem tree_in {x y a z w : Int} (h : treeE x y a z w = 0) : (-100000 <= x /\ x <= 100000) /\ (-100000 <= y /\ y <= 100000) /\ (1 <= a /\ a <= 20000) /\ 0 <= z /\ z < w /\ w <= 1000 := by
 unfold treeE at h
 cases hp : ptOk x y with
 | false => rw [hp] at h; cases h
 | true =>
   rw [hp] at h
   simp only [Bool.not_true, Bool.not_false, cond_true] at h
   cases hf : F71_0 a 1 20000 with
   | false => rw [hf] at h; cases h
   | true =>
     rw [hf] at h
     have ha := from_in hf
     have hq := pt_in hp
     by_cases h1 : z < 0
     ·simp [h1] at h
     ·by_cases h2 : w <= z
      ·simp [h1, h2] at h
      ·by_cases h3 : 1000 < w
       ·simp [h1, h2, h3] at h
       ·exact ⟨hq.1, hq.2, ha, by omega, by omega, by omega⟩
theorem col_in {x y h dx dy : Int} (hc : colE x y h dx dy = 0) : (-100000 <= x /\ x <= 100000) /\ (-100000 <= y /\ y <= 100000) /\ (1 <= h /\ h <= 200) := by
 have hc' : (bif bif bif bif !ptOk x y then true else !F71_0 h 1 200 then true else !F71_0 dx (-1000) 1000 then true else !F71_0 dy (-1000) 1000 then 7 else bif bif dx == 0 then dy == 0 else false then 2 else (0 : Int)) = 0 := hc
 cases hp : ptOk x y with
 | false => rw [hp] at hc'; cases hc'
 | true =>
   rw [hp] at hc'
   cases hf : F71_0 h 1 200 with
   | false => rw [hf] at hc'; cases hc'
   | true => exact ⟨(pt_in hp).1, (pt_in hp).2, from_in hf⟩
theorem col_of {n6 : Nat} {f6 : Nat -> List V} {i : Nat} (h : cC n6 f6 i = 0) : colE (jv1 (f6 i)) (jv2 (f6 i)) (jv3 (f6 i)) (jv4 (f6 i)) (jv5 (f6 i)) = 0 := by
 have h' : F73 n6 (elV tyC f6) (i : Int) = 0 := h
 unfold F73 at h'
 simp only [Int.toNat_natCast] at h'
 cases hn : F122 (sv (hdV (elV tyC f6 i))) with
 | false => rw [hn] at h'; cases h'
 | true =>
   rw [hn, Bool.not_true, cond_false] at h'
   cases hd : exB i (fun k => (sv (hdV (elV tyC f6 k))).toList == (sv (hdV (elV tyC f6 i))).toList) with
   | true => rw [hd] at h'; cases h'
   | false => rw [hd, cond_false] at h'; exact h'
section
variable {X Y h tx ty R lo hi x9 x10 x11 x12 px py : Int}
structure TC (X Y h tx ty R lo hi : Int) : Prop where
 X' : -100000 <= X /\ X <= 100000
 Y' : -100000 <= Y /\ Y <= 100000
 h' : 1 <= h /\ h <= 200
 tx' : -100000 <= tx /\ tx <= 100000
 ty' : -100000 <= ty /\ ty <= 100000
 R' : 1 <= R /\ R <= 20000
 lo' : 0 <= lo /\ lo < hi /\ hi <= 1000
theorem TC.vals (t : TC X Y h tx ty R lo hi) : F48_0 h hi = max 0 (h - hi) /\ F104_0 h hi = max 0 (h - hi) /\ F48_1 h lo = h - lo /\ F104_1 h lo = h - lo /\ F48_2 h tx = h * tx /\ F105_0 h tx = h * tx /\ F48_3 h ty = h * ty /\ F105_1 h ty = h * ty /\ F48_4 h R = h * R /\ F105_2 h R = h * R /\ sm (h * tx) /\ sm (h * ty) /\ 0 <= h * R /\ h * R <= 1073741824 := by
 obtain ⟨_, _, hh, h1, h2, h3, h4⟩ := t
 have k1 := mulS (x := h) (y := tx) (A := 200) (B := 100000) (by omega) (by omega) (by omega) (by omega)
 have k2 := mulS (x := h) (y := ty) (A := 200) (B := 100000) (by omega) (by omega) (by omega) (by omega)
 have k3 := mulS (x := h) (y := R) (A := 200) (B := 20000) (by omega) (by omega) (by omega) (by omega)
 have k4 := imn (show 0 <= h by omega) (show 0 <= R by omega)
 unfold F48_0 F104_0 F48_1 F104_1 F48_2 F48_3 F48_4 F101_0 F101_1 F105_0 F105_1 F105_2
 rw [Int.mul_comm R h, wrapI (x := h - hi) (by omega) (by omega), wrapI (x := h - min hi h) (by omega) (by omega), wrapI (x := h - lo) (by omega) (by omega), wrapI (x := h * tx) (by omega) (by omega), wrapI (x := h * ty) (by omega) (by omega), wrapI (x := h * R) (by omega) (by omega)]
 unfold sm
 refine ⟨rfl, by omega, rfl, rfl, rfl, rfl, rfl, rfl, rfl, rfl, by omega, by omega, k4, by omega⟩
theorem TC.in57 (t : TC X Y h tx ty R lo hi) (hb : F48_5 h lo = false) (h9 : -100000 <= x9 /\ x9 <= 100000) (h10 : -100000 <= x10 /\ x10 <= 100000) (h11 : -100000 <= x11 /\ x11 <= 100000) (h12 : -100000 <= x12 /\ x12 <= 100000) : In57 X Y h (F48_0 h hi) (F48_1 h lo) (F48_2 h tx) (F48_3 h ty) (F48_4 h R) x9 x10 x11 x12 := by
 obtain ⟨e1, _, e2, _, e3, _, e4, _, e5, _, s1, s2, s3, s4⟩ := t.vals
 have := t.h'; have := t.lo'
 unfold F48_5 at hb
 have hb := of_decide_eq_false hb
 rw [e1, e2, e3, e4, e5]
 exact ⟨t.X', t.Y', by omega, by omega, by omega, s1, s2, ⟨s3, s4⟩, h9, h10, h11, h12⟩
end
def bestF (d t : Nat -> Bool) : Nat -> Int
 | 0 => 0
 | k + 1 => bif d k then 2 else bif t k then max (bestF d t k) 1 else bestF d t k
def shadeF (d t : Nat -> Bool) (n : Nat) : Int := bif exB n d then 2 else bif exB n t then 1 else 0
theorem exB_succ (n : Nat) (p : Nat -> Bool) : exB (n + 1) p = (exB n p || p n) := by
 cases h : exB (n + 1) p with
 | true =>
   obtain ⟨i, hi, hp⟩ := exB_iff.1 h
   by_cases e : i = n
   ·rw [← e, hp]; simp
   ·rw [exB_true i (by omega) hp]; rfl
 | false =>
   have h1 : exB n p = false := by
    cases h2 : exB n p with
    | false => rfl
    | true => obtain ⟨i, hi, hp⟩ := exB_iff.1 h2; rw [exB_true i (by omega) hp] at h; cases h
   have h2 : p n = false := by
    cases h2 : p n with
    | false => rfl
    | true => rw [exB_true n (by omega) h2] at h; cases h
   rw [h1, h2]; rfl
theorem best_shade (d t : Nat -> Bool) : ∀ n, bestF d t n = shadeF d t n
 | 0 => rfl
 | n + 1 => by
   have ih := best_shade d t n
   unfold shadeF at *
   simp only [bestF]
   rw [exB_succ, exB_succ, ih]
   cases exB n d <;> cases exB n t <;> cases d n <;> cases t n <;> rfl
end
end Go.Dx
namespace Go.Dx
open Go.IntKind (i64 u64 u8)
open Go.Sx Go.Proofs
noncomputable section
def ctB31 : CTab := ctB30
theorem tabB31 : TabOk Tryz.prog eqs its ctB31 := tabB30
attribute [local irreducible] F44 F50_0 F91_0
theorem sc_in {n0 : Nat} {f0 : Nat -> List V} {n2 : Nat} {f2 : Nat -> List V} {n4 : Nat} {f4 : Nat -> List V} {n6 : Nat} {f6 : Nat -> List V} {x8 : Int} (h : ix1 (F24_2 n0 (elV tyR f0) n2 (elV tyT f2) n4 (elV tyF f4) n6 (elV tyC f6)) x8 n6 = 0) : (0 <= x8 /\ x8 < (n6 : Int)) /\ ∀ i, i < n2 -> TC (jv1 (f6 x8.toNat)) (jv2 (f6 x8.toNat)) (jv3 (f6 x8.toNat)) (jv0 (f2 i)) (jv1 (f2 i)) (jv2 (f2 i)) (jv3 (f2 i)) (jv4 (f2 i)) := by
 obtain ⟨h1, h2, h3⟩ := ix1_zero h
 have hv := valid h1
 refine ⟨⟨h2, h3⟩, fun i hi => ?_⟩
 have hc := col_in (col_of (f6 := elV tyC f6) (hv.cl x8.toNat (by omega)))
 have ht := tree_in (hv.tr i hi)
 exact ⟨hc.1, hc.2.1, hc.2.2, ht.1, ht.2.1, ht.2.2.1, ht.2.2.2⟩
inductive S17 where
 | L0 (ia0 ia1 : Int)
def inv17 (n0 : Nat) (f0 : FnV) (n2 : Nat) (f2 : FnV) (n4 : Nat) (f4 : FnV) (n6 : Nat) (f6 : FnV) (x8 x9 x10 x11 x12 : Int) : S17 -> Env × List O × Option Ex
 | .L0 ia0 ia1 => ([(31, vi ia0), (30, vi (↑n2 : Int)), (29, V.sl n2 (elV tyT f2)), (9, vi ia1), (5, V.pl 0 0), (3, V.pl 1 0), (1, vi x8)], [O.cells [vi x9, vi x10, vi x11, vi x12] 29, O.cells [V.sl n0 (elV tyR f0), V.sl n2 (elV tyT f2), V.sl n4 (elV tyF f4), V.sl n6 (elV tyC f6)] 27], none)
def id17 : S17 -> JJ
 | .L0 ia0 ia1 => (0, [])
def rl17 (n0 : Nat) (f0 : FnV) (n2 : Nat) (f2 : FnV) (n4 : Nat) (f4 : FnV) (n6 : Nat) (f6 : FnV) (x8 x9 x10 x11 x12 : Int) : T (Leaf JJ) := runL JJ ctB31 u0 s17 [scV n0 f0 n2 f2 n4 f4 n6 f6, vi x8, V.agg [vi x9, vi x10, vi x11, vi x12]]
def lp17_0 (n0 : Nat) (f0 : FnV) (n2 : Nat) (f2 : FnV) (n4 : Nat) (f4 : FnV) (n6 : Nat) (f6 : FnV) (x8 x9 x10 x11 x12 : Int) (cx : List Cx) : Lp JJ := lpT (atT (rl17 n0 f0 n2 f2 n4 f4 n6 f6 x8 x9 x10 x11 x12) [false, false])
def lp17 (n0 : Nat) (f0 : FnV) (n2 : Nat) (f2 : FnV) (n4 : Nat) (f4 : FnV) (n6 : Nat) (f6 : FnV) (x8 x9 x10 x11 x12 : Int) : JJ -> Lp JJ
 | (0, cx) => lp17_0 n0 f0 n2 f2 n4 f4 n6 f6 x8 x9 x10 x11 x12 cx
 | (_, cx) => lp17_0 n0 f0 n2 f2 n4 f4 n6 f6 x8 x9 x10 x11 x12 cx
def D17 (n0 : Nat) (f0 : FnV) (n2 : Nat) (f2 : FnV) (n4 : Nat) (f4 : FnV) (n6 : Nat) (f6 : FnV) (x8 x9 x10 x11 x12 : Int) : LD JJ S17 := ⟨id17, lp17 n0 f0 n2 f2 n4 f4 n6 f6 x8 x9 x10 x11 x12, inv17 n0 f0 n2 f2 n4 f4 n6 f6 x8 x9 x10 x11 x12⟩
def st17 (n0 : Nat) (f0 : FnV) (n2 : Nat) (f2 : FnV) (n4 : Nat) (f4 : FnV) (n6 : Nat) (f6 : FnV) (x8 x9 x10 x11 x12 : Int) : S17 -> RT S17
 | .L0 ia0 ia1 => .br (decide (ia0 < (↑n2 : Int))) (.ob (decide (0 <= ia0 /\ ia0 < (↑n2 : Int))) (.ob (decide (0 <= x8 /\ x8 < (↑n6 : Int))) (.obc (.obt (.obc (.obt (.obc (.obt (.br (!F55_0 4 (elV tp2 (secF [vi x9, vi x10, vi x11, vi x10, vi x11, vi x12, vi x9, vi x12] 0 2)) (jv1 (f6 x8.toNat)) (jv2 (f6 x8.toNat)) (jv3 (f6 x8.toNat)) (F48_0 (jv3 (f6 x8.toNat)) (jv4 (f2 ia0.toNat))) (F48_1 (jv3 (f6 x8.toNat)) (jv3 (f2 ia0.toNat))) (F48_2 (jv3 (f6 x8.toNat)) (jv0 (f2 ia0.toNat))) (F48_3 (jv3 (f6 x8.toNat)) (jv1 (f2 ia0.toNat))) (F48_4 (jv3 (f6 x8.toNat)) (jv2 (f2 ia0.toNat))) (F48_5 (jv3 (f6 x8.toNat)) (jv3 (f2 ia0.toNat)))) (.next [some (some 0), some (some 1)] (S17.L0 (i64.wrap (ia0 + 1)) (2)) []) (.obp (F48_5 (jv3 (f6 x8.toNat)) (jv3 (f2 ia0.toNat)) = false -> ((-100000 : Int) <= jv1 (f6 x8.toNat) /\ jv1 (f6 x8.toNat) <= (100000 : Int)) /\ ((-100000 : Int) <= jv2 (f6 x8.toNat) /\ jv2 (f6 x8.toNat) <= (100000 : Int)) /\ ((0 : Int) <= jv3 (f6 x8.toNat) /\ jv3 (f6 x8.toNat) <= (200 : Int)) /\ ((0 : Int) <= F48_0 (jv3 (f6 x8.toNat)) (jv4 (f2 ia0.toNat)) /\ F48_0 (jv3 (f6 x8.toNat)) (jv4 (f2 ia0.toNat)) <= (200 : Int)) /\ ((0 : Int) <= F48_1 (jv3 (f6 x8.toNat)) (jv3 (f2 ia0.toNat)) /\ F48_1 (jv3 (f6 x8.toNat)) (jv3 (f2 ia0.toNat)) <= (200 : Int)) /\ ((-536870912 : Int) <= F48_2 (jv3 (f6 x8.toNat)) (jv0 (f2 ia0.toNat)) /\ F48_2 (jv3 (f6 x8.toNat)) (jv0 (f2 ia0.toNat)) <= (536870912 : Int)) /\ ((-536870912 : Int) <= F48_3 (jv3 (f6 x8.toNat)) (jv1 (f2 ia0.toNat)) /\ F48_3 (jv3 (f6 x8.toNat)) (jv1 (f2 ia0.toNat)) <= (536870912 : Int)) /\ ((0 : Int) <= F48_4 (jv3 (f6 x8.toNat)) (jv2 (f2 ia0.toNat)) /\ F48_4 (jv3 (f6 x8.toNat)) (jv2 (f2 ia0.toNat)) <= (1073741824 : Int)) /\ ((-100000 : Int) <= x9 /\ x9 <= (100000 : Int)) /\ ((-100000 : Int) <= x10 /\ x10 <= (100000 : Int)) /\ ((-100000 : Int) <= x11 /\ x11 <= (100000 : Int)) /\ (-100000 : Int) <= x12 /\ x12 <= (100000 : Int)) (.obt (.br (F57 (jv1 (f6 x8.toNat)) (jv2 (f6 x8.toNat)) (jv3 (f6 x8.toNat)) (F48_0 (jv3 (f6 x8.toNat)) (jv4 (f2 ia0.toNat))) (F48_1 (jv3 (f6 x8.toNat)) (jv3 (f2 ia0.toNat))) (F48_2 (jv3 (f6 x8.toNat)) (jv0 (f2 ia0.toNat))) (F48_3 (jv3 (f6 x8.toNat)) (jv1 (f2 ia0.toNat))) (F48_4 (jv3 (f6 x8.toNat)) (jv2 (f2 ia0.toNat))) (F48_5 (jv3 (f6 x8.toNat)) (jv3 (f2 ia0.toNat))) x9 x10 x11 x12) (.next [some (some 0), some (some 1)] (S17.L0 (i64.wrap (ia0 + 1)) (max ia1 1)) []) (.next [some (some 0), some (some 1)] (S17.L0 (i64.wrap (ia0 + 1)) (ia1)) []))))))))))))) (.ret (V.tup [vi ia1, vi 0]))
def m17 (n0 : Nat) (f0 : FnV) (n2 : Nat) (f2 : FnV) (n4 : Nat) (f4 : FnV) (n6 : Nat) (f6 : FnV) (x8 x9 x10 x11 x12 : Int) : RT S17 := .asm (true = true -> n6 <= 9223372036854775807) (.obp (((∀ (i : Nat), i < n0 -> (sv (hdV (f0 i))).size <= (9223372036854775807 : Nat)) /\ ∀ (i : Nat), i < n6 -> (sv (hdV (f6 i))).size <= (9223372036854775807 : Nat)) /\ (0 : Nat) = (0 : Nat) /\ (2 : Nat) <= (100 : Nat)) (.obt (.br (F44 n0 (elV tyR f0) n2 (elV tyT f2) n4 (elV tyF f4) n6 (elV tyC f6) 2 (elV tp1 (secF [vi x8, vi (↑n6 : Int)] 0 1)) != 0) (.ret (V.tup [vi 0, vi (F44 n0 (elV tyR f0) n2 (elV tyT f2) n4 (elV tyF f4) n6 (elV tyC f6) 2 (elV tp1 (secF [vi x8, vi (↑n6 : Int)] 0 1)))])) (.obc (.obt (.br (F53_0 x9 x10 x11 x12) (.ret (V.tup [vi 0, vi 7])) (.asm (true = true -> n2 <= 9223372036854775807) (.enter [some (some 1), some (some 0)] (S17.L0 (0) (0)) []))))))))
theorem run17 (n0 : Nat) (f0 : FnV) (n2 : Nat) (f2 : FnV) (n4 : Nat) (f4 : FnV) (n6 : Nat) (f6 : FnV) (x8 x9 x10 x11 x12 : Int) : Fits ctB31 u0 (D17 n0 f0 n2 f2 n4 f4 n6 f6 x8 x9 x10 x11 x12) (rl17 n0 f0 n2 f2 n4 f4 n6 f6 x8 x9 x10 x11 x12) (m17 n0 f0 n2 f2 n4 f4 n6 f6 x8 x9 x10 x11 x12) (st17 n0 f0 n2 f2 n4 f4 n6 f6 x8 x9 x10 x11 x12) := ⟨⟨by kernel_rfl, by kernel_rfl⟩, fun s => by cases s <;> exact ⟨by kernel_rfl, by kernel_rfl⟩⟩
def d17 (n0 : Nat) (f0 : FnV) (n2 : Nat) (f2 : FnV) (n4 : Nat) (f4 : FnV) (n6 : Nat) (f6 : FnV) (x8 x9 x10 x11 x12 : Int) (ii : Nat) : Bool := !F55_0 4 (elV tp2 (secF [vi x9, vi x10, vi x11, vi x10, vi x11, vi x12, vi x9, vi x12] 0 2)) (jv1 (f6 x8.toNat)) (jv2 (f6 x8.toNat)) (jv3 (f6 x8.toNat)) (F48_0 (jv3 (f6 x8.toNat)) (jv4 (f2 ii))) (F48_1 (jv3 (f6 x8.toNat)) (jv3 (f2 ii))) (F48_2 (jv3 (f6 x8.toNat)) (jv0 (f2 ii))) (F48_3 (jv3 (f6 x8.toNat)) (jv1 (f2 ii))) (F48_4 (jv3 (f6 x8.toNat)) (jv2 (f2 ii))) (F48_5 (jv3 (f6 x8.toNat)) (jv3 (f2 ii)))
def t17 (n0 : Nat) (f0 : FnV) (n2 : Nat) (f2 : FnV) (n4 : Nat) (f4 : FnV) (n6 : Nat) (f6 : FnV) (x8 x9 x10 x11 x12 : Int) (ii : Nat) : Bool := F57 (jv1 (f6 x8.toNat)) (jv2 (f6 x8.toNat)) (jv3 (f6 x8.toNat)) (F48_0 (jv3 (f6 x8.toNat)) (jv4 (f2 ii))) (F48_1 (jv3 (f6 x8.toNat)) (jv3 (f2 ii))) (F48_2 (jv3 (f6 x8.toNat)) (jv0 (f2 ii))) (F48_3 (jv3 (f6 x8.toNat)) (jv1 (f2 ii))) (F48_4 (jv3 (f6 x8.toNat)) (jv2 (f2 ii))) (F48_5 (jv3 (f6 x8.toNat)) (jv3 (f2 ii))) x9 x10 x11 x12
def F17_0 (n0 : Nat) (f0 : FnV) (n2 : Nat) (f2 : FnV) (n4 : Nat) (f4 : FnV) (n6 : Nat) (f6 : FnV) (x8 x9 x10 x11 x12 : Int) : Int := bif F44 n0 (elV tyR f0) n2 (elV tyT f2) n4 (elV tyF f4) n6 (elV tyC f6) 2 (elV tp1 (secF [vi x8, vi (↑n6 : Int)] 0 1)) != 0 then 0 else bif F53_0 x9 x10 x11 x12 then 0 else bestF (d17 n0 f0 n2 f2 n4 f4 n6 f6 x8 x9 x10 x11 x12) (t17 n0 f0 n2 f2 n4 f4 n6 f6 x8 x9 x10 x11 x12) n2
def F17_1 (n0 : Nat) (f0 : FnV) (n2 : Nat) (f2 : FnV) (n4 : Nat) (f4 : FnV) (n6 : Nat) (f6 : FnV) (x8 x9 x10 x11 x12 : Int) : Int := bif F44 n0 (elV tyR f0) n2 (elV tyT f2) n4 (elV tyF f4) n6 (elV tyC f6) 2 (elV tp1 (secF [vi x8, vi (↑n6 : Int)] 0 1)) != 0 then F44 n0 (elV tyR f0) n2 (elV tyT f2) n4 (elV tyF f4) n6 (elV tyC f6) 2 (elV tp1 (secF [vi x8, vi (↑n6 : Int)] 0 1)) else bif F53_0 x9 x10 x11 x12 then 7 else 0
theorem c17 (n0 : Nat) (f0 : FnV) (n2 : Nat) (f2 : FnV) (n4 : Nat) (f4 : FnV) (n6 : Nat) (f6 : FnV) (x8 x9 x10 x11 x12 : Int) (hx : 0 <= x8 /\ x8 < (n6 : Int)) (hn : n2 <= 9223372036854775807) (hin : ∀ i, i < n2 -> TC (jv1 (f6 x8.toNat)) (jv2 (f6 x8.toNat)) (jv3 (f6 x8.toNat)) (jv0 (f2 i)) (jv1 (f2 i)) (jv2 (f2 i)) (jv3 (f2 i)) (jv4 (f2 i))) (hp : (-100000 <= x9 /\ x9 <= 100000) /\ (-100000 <= x10 /\ x10 <= 100000) /\ (-100000 <= x11 /\ x11 <= 100000) /\ (-100000 <= x12 /\ x12 <= 100000)) :
 ∀ i, i <= n2 -> Ev (st17 n0 f0 n2 f2 n4 f4 n6 f6 x8 x9 x10 x11 x12) (.L0 (i : Int) (bestF (d17 n0 f0 n2 f2 n4 f4 n6 f6 x8 x9 x10 x11 x12) (t17 n0 f0 n2 f2 n4 f4 n6 f6 x8 x9 x10 x11 x12) i)) (.tup [.int .i64 (bestF (d17 n0 f0 n2 f2 n4 f4 n6 f6 x8 x9 x10 x11 x12) (t17 n0 f0 n2 f2 n4 f4 n6 f6 x8 x9 x10 x11 x12) n2), .int .i64 0]) := by
 refine up_ind fun i hi ih => ?_
 by_cases hlt : i < n2
 ·have ih := ih hlt
  have hw := wrapS hlt hn
  refine Ev.of rfl (evBrT (dqt (by omega)) (evOb (dqt (by omega)) (evOb (dqt hx) (evObc (evObt (evObc (evObt (evObc (evObt (evBr (fun h => evNext ?_) (fun h => evObp ?_ (evObt (evBr (fun h2 => evNext ?_) (fun h2 => evNext ?_))))))))))))))
  ·rw [hw]
   have e : bestF (d17 n0 f0 n2 f2 n4 f4 n6 f6 x8 x9 x10 x11 x12) (t17 n0 f0 n2 f2 n4 f4 n6 f6 x8 x9 x10 x11 x12) (i + 1) = 2 := by simp only [bestF]; rw [show d17 n0 f0 n2 f2 n4 f4 n6 f6 x8 x9 x10 x11 x12 i = true from h]; rfl
   rw [e] at ih; exact ih
  ·exact fun hb => (hin i hlt).in57 hb hp.1 hp.2.1 hp.2.2.1 hp.2.2.2
  ·rw [hw]
   have e : bestF (d17 n0 f0 n2 f2 n4 f4 n6 f6 x8 x9 x10 x11 x12) (t17 n0 f0 n2 f2 n4 f4 n6 f6 x8 x9 x10 x11 x12) (i + 1) = max (bestF (d17 n0 f0 n2 f2 n4 f4 n6 f6 x8 x9 x10 x11 x12) (t17 n0 f0 n2 f2 n4 f4 n6 f6 x8 x9 x10 x11 x12) i) 1 := by simp only [bestF]; rw [show d17 n0 f0 n2 f2 n4 f4 n6 f6 x8 x9 x10 x11 x12 i = false from h, show t17 n0 f0 n2 f2 n4 f4 n6 f6 x8 x9 x10 x11 x12 i = true from h2]; rfl
   rw [e] at ih; exact ih
  ·rw [hw]
   have e : bestF (d17 n0 f0 n2 f2 n4 f4 n6 f6 x8 x9 x10 x11 x12) (t17 n0 f0 n2 f2 n4 f4 n6 f6 x8 x9 x10 x11 x12) (i + 1) = bestF (d17 n0 f0 n2 f2 n4 f4 n6 f6 x8 x9 x10 x11 x12) (t17 n0 f0 n2 f2 n4 f4 n6 f6 x8 x9 x10 x11 x12) i := by simp only [bestF]; rw [show d17 n0 f0 n2 f2 n4 f4 n6 f6 x8 x9 x10 x11 x12 i = false from h, show t17 n0 f0 n2 f2 n4 f4 n6 f6 x8 x9 x10 x11 x12 i = false from h2]; rfl
   rw [e] at ih; exact ih
 ·have e : i = n2 := by omega
  subst e
  exact Ev.of rfl (evBrF (dqf (by omega)) (evRet rfl))
theorem ev17_0 (n0 : Nat) (f0 : FnV) (n2 : Nat) (f2 : FnV) (n4 : Nat) (f4 : FnV) (n6 : Nat) (f6 : FnV) (x8 x9 x10 x11 x12 : Int) (hp : SzOk n0 f0 /\ SzOk n6 f6) : evR (Ev (st17 n0 f0 n2 f2 n4 f4 n6 f6 x8 x9 x10 x11 x12)) (m17 n0 f0 n2 f2 n4 f4 n6 f6 x8 x9 x10 x11 x12) (.tup [.int .i64 (F17_0 n0 f0 n2 f2 n4 f4 n6 f6 x8 x9 x10 x11 x12), .int .i64 (F17_1 n0 f0 n2 f2 n4 f4 n6 f6 x8 x9 x10 x11 x12)]) := evAsm1 fun h6 => evObp ⟨hp, rfl, by decide⟩ (evObt (evBr (fun h => evRet (by unfold F17_0 F17_1; rw [h]; rfl)) (fun h => evObc (evObt (evBr (fun h2 => evRet (by unfold F17_0 F17_1; rw [h, h2]; rfl)) (fun h2 => evAsm1 fun hn => evEnter (by
 have e0 : F17_0 n0 f0 n2 f2 n4 f4 n6 f6 x8 x9 x10 x11 x12 = bestF (d17 n0 f0 n2 f2 n4 f4 n6 f6 x8 x9 x10 x11 x12) (t17 n0 f0 n2 f2 n4 f4 n6 f6 x8 x9 x10 x11 x12) n2 := by unfold F17_0; rw [h, h2]; rfl
 have e1 : F17_1 n0 f0 n2 f2 n4 f4 n6 f6 x8 x9 x10 x11 x12 = 0 := by unfold F17_1; rw [h, h2]; rfl
 rw [e0, e1]
 have hc := chk2 (n0 := n0) (f0 := f0) (n2 := n2) (f2 := f2) (n4 := n4) (f4 := f4) (n6 := n6) (f6 := f6) (i := x8) (m := n6) (fun _ => h6)
 have hz : ix1 (F24_2 n0 (elV tyR f0) n2 (elV tyT f2) n4 (elV tyF f4) n6 (elV tyC f6)) x8 n6 = 0 := by rw [← hc]; simpa using h
 obtain ⟨hx, hin⟩ := sc_in hz
 rw [rough_eq] at h2
 have hq := patch_in (tnT h2)
 exact c17 _ _ _ _ _ _ _ _ _ _ _ _ _ hx hn hin ⟨hq.1, hq.2.1, hq.2.2.1, hq.2.2.2.1⟩ 0 (Nat.zero_le _))))))))
theorem ev17 (n0 : Nat) (f0 : FnV) (n2 : Nat) (f2 : FnV) (n4 : Nat) (f4 : FnV) (n6 : Nat) (f6 : FnV) (x8 x9 x10 x11 x12 : Int) (hp : SzOk n0 (elV tyR f0) /\ SzOk n6 (elV tyC f6)) : evR (Ev (st17 n0 f0 n2 f2 n4 f4 n6 f6 x8 x9 x10 x11 x12)) (m17 n0 f0 n2 f2 n4 f4 n6 f6 x8 x9 x10 x11 x12) (.tup [.int .i64 (F17_0 n0 (elV tyR f0) n2 (elV tyT f2) n4 (elV tyF f4) n6 (elV tyC f6) x8 x9 x10 x11 x12), .int .i64 (F17_1 n0 (elV tyR f0) n2 (elV tyT f2) n4 (elV tyF f4) n6 (elV tyC f6) x8 x9 x10 x11 x12)]) := ev17_0 n0 f0 n2 f2 n4 f4 n6 f6 x8 x9 x10 x11 x12 hp
def C17 : PCon := mkC [.agg [.sl tyR, .sl tyT, .sl tyF, .sl tyC], .int .i64, .agg tp4] (fun
 | [.agg [.sl n0 f0, .sl n2 f2, .sl n4 f4, .sl n6 f6], .int _ x8, .agg [.int _ x9, .int _ x10, .int _ x11, .int _ x12]] => SzOk n0 f0 /\ SzOk n6 f6
 | _ => False) fun
 | [.agg [.sl n0 f0, .sl n2 f2, .sl n4 f4, .sl n6 f6], .int _ x8, .agg [.int _ x9, .int _ x10, .int _ x11, .int _ x12]] => .tup [.int .i64 (F17_0 n0 f0 n2 f2 n4 f4 n6 f6 x8 x9 x10 x11 x12), .int .i64 (F17_1 n0 f0 n2 f2 n4 f4 n6 f6 x8 x9 x10 x11 x12)]
 | _ => .any
theorem ok17 : (vP C17).Ok Tryz.prog 17 := mkE tabB31 Tryz.func17 (by kernel_rfl) fun ds hp => rfs (run17 ..) (ev17 _ _ _ _ _ _ _ _ _ _ _ _ _ hp)
end
end Go.Dx
namespace Go.Dx
open Go.IntKind (i64 u64 u8)
open Go.Sx
noncomputable section
section
variable {n0 : Nat} {f0 : Nat -> List V} {n2 : Nat} {f2 : Nat -> List V} {n4 : Nat} {f4 : Nat -> List V} {n6 : Nat} {f6 : Nat -> List V}
theorem all4 {p : Nat -> Bool} : (!exB 4 fun i => !p i) = (p 0 && (p 1 && (p 2 && p 3))) := by
 have e : exB 4 (fun i => !p i) = (!p 0 || (!p 1 || (!p 2 || !p 3))) := by
  rw [exB_succ, exB_succ, exB_succ, exB_succ]
  rw [show exB 0 (fun i => !p i) = false from rfl]
  cases p 0 <;> cases p 1 <;> cases p 2 <;> cases p 3 <;> rfl
 rw [e]
 cases p 0 <;> cases p 1 <;> cases p 2 <;> cases p 3 <;> rfl
end
end
end Go.Dx
namespace Go.Dx
section
variable {n0 n1 Mx My r vx vy k X0 Y0 X1 Y1 : Int}
def Sh (n0 n1 Mx My r vx vy k : Int) : Prop := ∃ N W, 0 < W /\ n0 * W <= N /\ N <= n1 * W /\ q2 (W * k * Mx - N * vx) (W * k * My - N * vy) <= (W * k * r) * (W * k * r)
def Tou (n0 n1 Mx My r X0 Y0 X1 Y1 : Int) : Prop := ∃ vx vy k, 0 < k /\ (k * X0 <= vx /\ vx <= k * X1) /\ (k * Y0 <= vy /\ vy <= k * Y1) /\ Sh n0 n1 Mx My r vx vy k
theorem Sh.scale {l : Int} (hl : 0 < l) : Sh n0 n1 Mx My r (l * vx) (l * vy) (l * k) ↔ Sh n0 n1 Mx My r vx vy k := by
 have key : ∀ N W : Int, q2 (W * (l * k) * Mx - N * (l * vx)) (W * (l * k) * My - N * (l * vy)) = l * l * q2 (W * k * Mx - N * vx) (W * k * My - N * vy) := fun N W => by rw [← q2_mul]; congr 1 <;> grind
 have key2 : ∀ W : Int, W * (l * k) * r * (W * (l * k) * r) = l * l * (W * k * r * (W * k * r)) := fun W => by grind
 constructor
 ·rintro ⟨N, W, h1, h2, h3, h4⟩
  exact ⟨N, W, h1, h2, h3, by rw [key, key2] at h4; exact cancel2 hl h4⟩
 ·rintro ⟨N, W, h1, h2, h3, h4⟩
  exact ⟨N, W, h1, h2, h3, by rw [key, key2]; exact iml h4 (sq0 l)⟩
theorem sh0 (h0 : n0 <= 0) (h1 : 0 <= n1) (hk : 0 < k) (h : q2 Mx My <= r * r) : Sh n0 n1 Mx My r vx vy k := by
 refine ⟨0, 1, by omega, by omega, by omega, ?_⟩
 have e : q2 (1 * k * Mx - 0 * vx) (1 * k * My - 0 * vy) = k * k * q2 Mx My := by rw [← q2_mul]; congr 1 <;> grind
 have e2 : 1 * k * r * (1 * k * r) = k * k * (r * r) := by grind
 rw [e, e2]
 exact iml h (sq0 k)
theorem sh_lamp {W N : Int} (hn : 0 <= n0) (hW : 0 < W) (h1 : n0 * W <= N) (h2 : N <= n1 * W) (hN : N = 0) (h : q2 (W * Mx - N * vx) (W * My - N * vy) <= (W * r) * (W * r)) : n0 <= 0 /\ 0 <= n1 /\ q2 Mx My <= r * r := by
 subst hN
 refine ⟨?_, ?_, ?_⟩
 ·apply Classical.byContradiction; intro hh
  have := Int.mul_pos (show 0 < n0 by omega) hW
  omega
 ·apply Classical.byContradiction; intro hh
  have := Int.mul_pos (show 0 < -n1 by omega) hW
  rw [Int.neg_mul] at this; omega
 ·rw [show W * Mx - 0 * vx = W * Mx by omega, show W * My - 0 * vy = W * My by omega, q2_mul, show W * r * (W * r) = W * W * (r * r) by grind] at h
  exact cancel2 hW h
theorem Sh.cv {ux uy j l : Int} (hn : 0 <= n0) (hr : 0 <= r) (h1 : Sh n0 n1 Mx My r vx vy 1) (h2 : Sh n0 n1 Mx My r ux uy 1) (hj : 0 <= j) (hl : j <= l) (h0 : 0 < l) : Sh n0 n1 Mx My r ((l - j) * vx + j * ux) ((l - j) * vy + j * uy) l := by
 obtain ⟨N1, W1, a1, a2, a3, a4⟩ := h1
 obtain ⟨N2, W2, b1, b2, b3, b4⟩ := h2
 rw [Int.mul_one] at a4 b4
 have hlj : 0 <= l - j := by omega
 have hN1 : 0 <= N1 := Int.le_trans (imn hn (Int.le_of_lt a1)) a2
 have hN2 : 0 <= N2 := Int.le_trans (imn hn (Int.le_of_lt b1)) b2
 by_cases z1 : N1 = 0
 ·obtain ⟨c1, c2, c3⟩ := sh_lamp hn a1 a2 a3 z1 a4
  exact sh0 c1 c2 h0 c3
 by_cases z2 : N2 = 0
 ·obtain ⟨c1, c2, c3⟩ := sh_lamp hn b1 b2 b3 z2 b4
  exact sh0 c1 c2 h0 c3
 have p1 : 0 < N1 := by omega
 have p2 : 0 < N2 := by omega
 have u1 : 0 <= (l - j) * N2 := imn hlj hN2
 have u2 : 0 <= j * N1 := imn hj hN1
 have hWp : 0 < (l - j) * N2 * W1 + j * N1 * W2 := by
  by_cases e : j = 0
  ·subst e
   have := Int.mul_pos (Int.mul_pos (show 0 < l - 0 by omega) p2) a1
   have := imn (imn (show (0 : Int) <= 0 by omega) hN1) (Int.le_of_lt b1)
   omega
  ·have := Int.mul_pos (Int.mul_pos (show 0 < j by omega) p1) b1
   have := imn u1 (Int.le_of_lt a1)
   omega
 refine ⟨l * N1 * N2, (l - j) * N2 * W1 + j * N1 * W2, hWp, ?_, ?_, ?_⟩
 ·have k1 := iml a2 u1
  have k2 := iml b2 u2
  have e1 : n0 * ((l - j) * N2 * W1 + j * N1 * W2) = (l - j) * N2 * (n0 * W1) + j * N1 * (n0 * W2) := by grind
  have e2 : l * N1 * N2 = (l - j) * N2 * N1 + j * N1 * N2 := by grind
  omega
 ·have k1 := iml a3 u1
  have k2 := iml b3 u2
  have e1 : n1 * ((l - j) * N2 * W1 + j * N1 * W2) = (l - j) * N2 * (n1 * W1) + j * N1 * (n1 * W2) := by grind
  have e2 : l * N1 * N2 = (l - j) * N2 * N1 + j * N1 * N2 := by grind
  omega
 ·have f1 : q2 ((l - j) * N2 * (W1 * Mx - N1 * vx)) ((l - j) * N2 * (W1 * My - N1 * vy)) <= ((l - j) * N2 * (W1 * r)) * ((l - j) * N2 * (W1 * r)) := by
   rw [q2_mul, show ((l - j) * N2 * (W1 * r)) * ((l - j) * N2 * (W1 * r)) = (l - j) * N2 * ((l - j) * N2) * (W1 * r * (W1 * r)) by grind]
   exact iml a4 (sq0 _)
  have f2 : q2 (j * N1 * (W2 * Mx - N2 * ux)) (j * N1 * (W2 * My - N2 * uy)) <= (j * N1 * (W2 * r)) * (j * N1 * (W2 * r)) := by
   rw [q2_mul, show (j * N1 * (W2 * r)) * (j * N1 * (W2 * r)) = j * N1 * (j * N1) * (W2 * r * (W2 * r)) by grind]
   exact iml b4 (sq0 _)
  have f3 := triA (imn u1 (imn (Int.le_of_lt a1) hr)) (imn u2 (imn (Int.le_of_lt b1) hr)) f1 f2
  have f4 := iml f3 (sq0 l)
  rw [← q2_mul] at f4
  have e1 : ∀ M v u : Int, ((l - j) * N2 * W1 + j * N1 * W2) * l * M - l * N1 * N2 * ((l - j) * v + j * u) = l * ((l - j) * N2 * (W1 * M - N1 * v) + j * N1 * (W2 * M - N2 * u)) := fun M v u => by grind
  rw [e1, e1]
  have e2 : ((l - j) * N2 * W1 + j * N1 * W2) * l * r * (((l - j) * N2 * W1 + j * N1 * W2) * l * r) = l * l * (((l - j) * N2 * (W1 * r) + j * N1 * (W2 * r)) * ((l - j) * N2 * (W1 * r) + j * N1 * (W2 * r))) := by grind
  rw [e2]; exact f4
theorem Sh.row {a b x y : Int} (hn : 0 <= n0) (hr : 0 <= r) (h1 : Sh n0 n1 Mx My r a y 1) (h2 : Sh n0 n1 Mx My r b y 1) (ha : a <= x) (hb : x <= b) : Sh n0 n1 Mx My r x y 1 := by
 by_cases e : a = b
 ·rw [show x = a by omega]; exact h1
 ·have h := Sh.cv (j := x - a) (l := b - a) hn hr h1 h2 (by omega) (by omega) (by omega)
  rw [show (b - a - (x - a)) * a + (x - a) * b = (b - a) * x by grind, show (b - a - (x - a)) * y + (x - a) * y = (b - a) * y by grind] at h
  have e1 := Sh.scale (n0 := n0) (n1 := n1) (Mx := Mx) (My := My) (r := r) (vx := x) (vy := y) (k := 1) (l := b - a) (by omega)
  rw [Int.mul_one] at e1
  exact e1.1 h
theorem Sh.col {a b x y : Int} (hn : 0 <= n0) (hr : 0 <= r) (h1 : Sh n0 n1 Mx My r x a 1) (h2 : Sh n0 n1 Mx My r x b 1) (ha : a <= y) (hb : y <= b) : Sh n0 n1 Mx My r x y 1 := by
 by_cases e : a = b
 ·rw [show y = a by omega]; exact h1
 ·have h := Sh.cv (j := y - a) (l := b - a) hn hr h1 h2 (by omega) (by omega) (by omega)
  rw [show (b - a - (y - a)) * a + (y - a) * b = (b - a) * y by grind, show (b - a - (y - a)) * x + (y - a) * x = (b - a) * x by grind] at h
  have e1 := Sh.scale (n0 := n0) (n1 := n1) (Mx := Mx) (My := My) (r := r) (vx := x) (vy := y) (k := 1) (l := b - a) (by omega)
  rw [Int.mul_one] at e1
  exact e1.1 h
theorem Sh.all {x y : Int} (hn : 0 <= n0) (hr : 0 <= r) (h1 : Sh n0 n1 Mx My r X0 Y0 1) (h2 : Sh n0 n1 Mx My r X1 Y0 1) (h3 : Sh n0 n1 Mx My r X1 Y1 1) (h4 : Sh n0 n1 Mx My r X0 Y1 1) (a1 : X0 <= x) (a2 : x <= X1) (b1 : Y0 <= y) (b2 : y <= Y1) : Sh n0 n1 Mx My r x y 1 :=
 Sh.col hn hr (Sh.row hn hr h1 h2 a1 a2) (Sh.row hn hr h4 h3 a1 a2) b1 b2
theorem Tou.of {x y : Int} (h : Sh n0 n1 Mx My r x y 1) (a1 : X0 <= x) (a2 : x <= X1) (b1 : Y0 <= y) (b2 : y <= Y1) : Tou n0 n1 Mx My r X0 Y0 X1 Y1 := ⟨x, y, 1, by omega, by omega, by omega, h⟩
theorem Tou.pt {x y : Int} (h : Tou n0 n1 Mx My r x y x y) : Sh n0 n1 Mx My r x y 1 := by
 obtain ⟨vx, vy, k, hk, h1, h2, h3⟩ := h
 rw [show vx = k * x by omega, show vy = k * y by omega] at h3
 have e1 := Sh.scale (n0 := n0) (n1 := n1) (Mx := Mx) (My := My) (r := r) (vx := x) (vy := y) (k := 1) hk
 rw [Int.mul_one] at e1
 exact e1.1 h3
theorem Tou.sub {Z0 V0 Z1 V1 : Int} (h : Tou n0 n1 Mx My r X0 Y0 X1 Y1) (a1 : Z0 <= X0) (a2 : X1 <= Z1) (b1 : V0 <= Y0) (b2 : Y1 <= V1) : Tou n0 n1 Mx My r Z0 V0 Z1 V1 := by
 obtain ⟨vx, vy, k, hk, h1, h2, h3⟩ := h
 have hk0 := Int.le_of_lt hk
 have := iml a1 hk0
 have := iml a2 hk0
 have := iml b1 hk0
 have := iml b2 hk0
 exact ⟨vx, vy, k, hk, by omega, by omega, h3⟩
end
def atP (h lx ly n cx cy : Int) : P2 := (h * lx + n * (cx - lx), h * ly + n * (cy - ly))
section
variable {h lx ly n0 n1 mx my r X0 Y0 X1 Y1 : Int}
def D8 (h lx ly n0 n1 X0 Y0 X1 Y1 : Int) (q : P2) : Prop := ∃ n cx cy, (n = n0 ∨ n = n1) /\ (cx = X0 ∨ cx = X1) /\ (cy = Y0 ∨ cy = Y1) /\ q = atP h lx ly n cx cy
theorem tou_w (hn : 0 <= n0) (h1 : n0 <= n1) (hX : X0 <= X1) (hY : Y0 <= Y1) {a b c : P2} (ha : D8 h lx ly n0 n1 X0 Y0 X1 Y1 a) (hb : D8 h lx ly n0 n1 X0 Y0 X1 Y1 b) (hc : D8 h lx ly n0 n1 X0 Y0 X1 Y1 c) {u v w : Int} (hu : 0 <= u) (hv : 0 <= v) (hw : 0 <= w) (hs : 0 < u + v + w)
 (hq : q2 ((u + v + w) * mx - (u * a.1 + v * b.1 + w * c.1)) ((u + v + w) * my - (u * a.2 + v * b.2 + w * c.2)) <= ((u + v + w) * r) * ((u + v + w) * r)) :
 Tou n0 n1 (mx - h * lx) (my - h * ly) r (X0 - lx) (Y0 - ly) (X1 - lx) (Y1 - ly) := by
 obtain ⟨na, ax, ay, a1, a2, a3, rfl⟩ := ha
 obtain ⟨nb, bx, b2, b1, b3, b4, rfl⟩ := hb
 obtain ⟨nc, cx, cy, c1, c2, c3, rfl⟩ := hc
 have ga : n0 <= na /\ na <= n1 /\ X0 <= ax /\ ax <= X1 /\ Y0 <= ay /\ ay <= Y1 := by omega
 have gb : n0 <= nb /\ nb <= n1 /\ X0 <= bx /\ bx <= X1 /\ Y0 <= b2 /\ b2 <= Y1 := by omega
 have gc : n0 <= nc /\ nc <= n1 /\ X0 <= cx /\ cx <= X1 /\ Y0 <= cy /\ cy <= Y1 := by omega
 clear a1 a2 a3 b1 b3 b4 c1 c2 c3
 unfold atP at hq
 simp only at hq
 have pa : 0 <= u * na := imn hu (by omega)
 have pb : 0 <= v * nb := imn hv (by omega)
 have pc : 0 <= w * nc := imn hw (by omega)
 have ea : u * n0 <= u * na /\ u * na <= u * n1 := ⟨iml ga.1 hu, iml ga.2.1 hu⟩
 have eb : v * n0 <= v * nb /\ v * nb <= v * n1 := ⟨iml gb.1 hv, iml gb.2.1 hv⟩
 have ec : w * n0 <= w * nc /\ w * nc <= w * n1 := ⟨iml gc.1 hw, iml gc.2.1 hw⟩
 have w0 : n0 * (u + v + w) = u * n0 + v * n0 + w * n0 := by grind
 have w1 : n1 * (u + v + w) = u * n1 + v * n1 + w * n1 := by grind
 have e1 : ∀ M l p q s : Int, (u + v + w) * M - (u * (h * l + na * (p - l)) + v * (h * l + nb * (q - l)) + w * (h * l + nc * (s - l))) = (u + v + w) * (M - h * l) - (u * na * (p - l) + v * nb * (q - l) + w * nc * (s - l)) := fun M l p q s => by grind
 rw [e1, e1] at hq
 by_cases z : u * na + v * nb + w * nc = 0
 ·have z1 : u * na = 0 := by omega
  have z2 : v * nb = 0 := by omega
  have z3 : w * nc = 0 := by omega
  rw [z1, z2, z3] at hq
  refine ⟨X0 - lx, Y0 - ly, 1, by omega, by omega, by omega, 0, u + v + w, hs, by omega, by omega, ?_⟩
  rw [Int.mul_one]
  refine Int.le_trans (Int.le_of_eq ?_) hq
  congr 1 <;> omega
 ·have hN : 0 < u * na + v * nb + w * nc := by omega
  have bd : ∀ Z l p q s : Int, Z <= p -> Z <= q -> Z <= s -> (u * na + v * nb + w * nc) * (Z - l) <= u * na * (p - l) + v * nb * (q - l) + w * nc * (s - l) := fun Z l p q s k1 k2 k3 => by
   have := iml (show Z - l <= p - l by omega) pa
   have := iml (show Z - l <= q - l by omega) pb
   have := iml (show Z - l <= s - l by omega) pc
   have e : (u * na + v * nb + w * nc) * (Z - l) = u * na * (Z - l) + v * nb * (Z - l) + w * nc * (Z - l) := by grind
   omega
  have bu : ∀ Z l p q s : Int, p <= Z -> q <= Z -> s <= Z -> u * na * (p - l) + v * nb * (q - l) + w * nc * (s - l) <= (u * na + v * nb + w * nc) * (Z - l) := fun Z l p q s k1 k2 k3 => by
   have := iml (show p - l <= Z - l by omega) pa
   have := iml (show q - l <= Z - l by omega) pb
   have := iml (show s - l <= Z - l by omega) pc
   have e : (u * na + v * nb + w * nc) * (Z - l) = u * na * (Z - l) + v * nb * (Z - l) + w * nc * (Z - l) := by grind
   omega
  refine ⟨u * na * (ax - lx) + v * nb * (bx - lx) + w * nc * (cx - lx), u * na * (ay - ly) + v * nb * (b2 - ly) + w * nc * (cy - ly), u * na + v * nb + w * nc, hN,
   ⟨bd _ _ _ _ _ ga.2.2.1 gb.2.2.1 gc.2.2.1, bu _ _ _ _ _ ga.2.2.2.1 gb.2.2.2.1 gc.2.2.2.1⟩, ⟨bd _ _ _ _ _ ga.2.2.2.2.1 gb.2.2.2.2.1 gc.2.2.2.2.1, bu _ _ _ _ _ ga.2.2.2.2.2 gb.2.2.2.2.2 gc.2.2.2.2.2⟩,
   u * na + v * nb + w * nc, u + v + w, hs, by omega, by omega, ?_⟩
  have e2 : ∀ M S : Int, (u + v + w) * (u * na + v * nb + w * nc) * M - (u * na + v * nb + w * nc) * S = (u * na + v * nb + w * nc) * ((u + v + w) * M - S) := fun M S => by grind
  have e3 : (u + v + w) * (u * na + v * nb + w * nc) * r * ((u + v + w) * (u * na + v * nb + w * nc) * r) = (u * na + v * nb + w * nc) * (u * na + v * nb + w * nc) * ((u + v + w) * r * ((u + v + w) * r)) := by grind
  rw [e2, e2, q2_mul, e3]
  exact iml hq (sq0 _)
theorem ref_tou (hn : 0 <= n0) (h1 : n0 <= n1) (hX : X0 <= X1) (hY : Y0 <= Y1) (hr : 0 <= r) (hf : RefT (D8 h lx ly n0 n1 X0 Y0 X1 Y1) (mx, my) r) : Tou n0 n1 (mx - h * lx) (my - h * ly) r (X0 - lx) (Y0 - ly) (X1 - lx) (Y1 - ly) := by
 rcases hf with ⟨a, b, ha, hb, hab⟩ | ⟨a, b, c, ha, hb, hc, h0, hw⟩
 ·obtain ⟨n, m, k1, k2, k3, k4⟩ := (nrp_iff hr).1 hab
  simp only at k4
  refine tou_w hn h1 hX hY ha hb hb (u := m - n) (v := n) (w := 0) (by omega) k1 (Int.le_refl 0) (by omega) ?_
  have e : ∀ M p q : Int, (m - n + n + 0) * M - ((m - n) * p + n * q + 0 * q) = m * M - 1 * ((m - n) * p + n * q) := fun M p q => by grind
  rw [e, e, show m - n + n + 0 = m by omega]
  rw [Int.mul_one] at k4
  exact k4
 ·have es : sdp b c (mx, my) + sdp c a (mx, my) + sdp a b (mx, my) = sdp a b c := by unfold sdp sd; grind
  have ex : sdp b c (mx, my) * a.1 + sdp c a (mx, my) * b.1 + sdp a b (mx, my) * c.1 = sdp a b c * mx := by unfold sdp sd; grind
  have ey : sdp b c (mx, my) * a.2 + sdp c a (mx, my) * b.2 + sdp a b (mx, my) * c.2 = sdp a b c * my := by unfold sdp sd; grind
  have z : ∀ t : Int, q2 0 0 <= t * t := fun t => by have := sq0 t; unfold q2; omega
  rcases hw with ⟨w1, w2, w3⟩ | ⟨w1, w2, w3⟩
  ·refine tou_w hn h1 hX hY ha hb hc (u := sdp b c (mx, my)) (v := sdp c a (mx, my)) (w := sdp a b (mx, my)) w2 w3 w1 (by omega) ?_
   rw [es, ex, ey, Int.sub_self, Int.sub_self]; exact z _
  ·refine tou_w hn h1 hX hY ha hb hc (u := -sdp b c (mx, my)) (v := -sdp c a (mx, my)) (w := -sdp a b (mx, my)) (by omega) (by omega) (by omega) (by omega) ?_
   rw [Int.neg_mul, Int.neg_mul, Int.neg_mul, Int.neg_mul, Int.neg_mul, Int.neg_mul, show -sdp b c (mx, my) + -sdp c a (mx, my) + -sdp a b (mx, my) = -sdp a b c by omega, show -(sdp b c (mx, my) * a.1) + -(sdp c a (mx, my) * b.1) + -(sdp a b (mx, my) * c.1) = -(sdp a b c * mx) by omega, show -(sdp b c (mx, my) * a.2) + -(sdp c a (mx, my) * b.2) + -(sdp a b (mx, my) * c.2) = -(sdp a b c * my) by omega, Int.neg_mul, Int.neg_mul, Int.sub_self, Int.sub_self]; exact z _
theorem tou_cv (hn : 0 <= n0) (ht : Tou n0 n1 (mx - h * lx) (my - h * ly) r (X0 - lx) (Y0 - ly) (X1 - lx) (Y1 - ly)) : CvN (D8 h lx ly n0 n1 X0 Y0 X1 Y1) mx my r := by
 obtain ⟨vx, vy, k, hk, ⟨x0, x1⟩, ⟨y0, y1⟩, N, W, hW, g1, g2, g3⟩ := ht
 have hN : 0 <= N := Int.le_trans (imn hn (Int.le_of_lt hW)) g1
 have hk0 : 0 <= k := Int.le_of_lt hk
 refine ⟨W * k * (h * lx) + N * vx, W * k * (h * ly) + N * vy, W * k, Int.mul_pos hW hk, fun A B C hD => ?_, ?_⟩
 ·have mn : ∀ A v Z0 Z1 : Int, k * Z0 <= v -> v <= k * Z1 -> ∃ Z, (Z = Z0 ∨ Z = Z1) /\ k * (A * Z) <= A * v := fun A v Z0 Z1 h0 h1 => by
   rcases Int.le_total 0 A with hA | hA
   ·refine ⟨Z0, .inl rfl, ?_⟩
    have := iml h0 hA
    have e : A * (k * Z0) = k * (A * Z0) := by grind
    omega
   ·refine ⟨Z1, .inr rfl, ?_⟩
    have := iml h1 (show 0 <= -A by omega)
    rw [Int.neg_mul, Int.neg_mul] at this
    have e : A * (k * Z1) = k * (A * Z1) := by grind
    omega
  obtain ⟨Zx, zx, kx⟩ := mn A vx _ _ x0 x1
  obtain ⟨Zy, zy, ky⟩ := mn B vy _ _ y0 y1
  have d0 := hD _ ⟨n0, Zx + lx, Zy + ly, .inl rfl, by omega, by omega, rfl⟩
  have d1 := hD _ ⟨n1, Zx + lx, Zy + ly, .inr rfl, by omega, by omega, rfl⟩
  unfold atP at d0 d1
  simp only [Int.add_sub_cancel] at d0 d1
  have k1 := iml (show k * (A * Zx + B * Zy) <= A * vx + B * vy by rw [Int.mul_add]; omega) hN
  have e1 : A * (W * k * (h * lx) + N * vx) + B * (W * k * (h * ly) + N * vy) + C * (W * k) = k * (W * (A * (h * lx) + B * (h * ly) + C)) + N * (A * vx + B * vy) := by grind
  have e2 : N * (k * (A * Zx + B * Zy)) = k * (N * (A * Zx + B * Zy)) := by grind
  have e3 : A * (h * lx + n0 * Zx) + B * (h * ly + n0 * Zy) + C = (A * (h * lx) + B * (h * ly) + C) + n0 * (A * Zx + B * Zy) := by grind
  have e4 : A * (h * lx + n1 * Zx) + B * (h * ly + n1 * Zy) + C = (A * (h * lx) + B * (h * ly) + C) + n1 * (A * Zx + B * Zy) := by grind
  rw [e3] at d0; rw [e4] at d1
  generalize A * (h * lx) + B * (h * ly) + C = Z at *
  generalize A * Zx + B * Zy = G at *
  have key : 0 <= W * Z + N * G := by
   rcases Int.le_total 0 G with hG | hG
   ·have := Int.mul_le_mul_of_nonneg_right g1 hG
    have := imn (Int.le_of_lt hW) d0
    have e : W * (Z + n0 * G) = W * Z + n0 * W * G := by grind
    omega
   ·have := Int.mul_le_mul_of_nonneg_right g2 (show 0 <= -G by omega)
    rw [Int.mul_neg, Int.mul_neg] at this
    have := imn (Int.le_of_lt hW) d1
    have e : W * (Z + n1 * G) = W * Z + n1 * W * G := by grind
    omega
  have := imn hk0 key
  rw [Int.mul_add] at this
  omega
 ·have e : ∀ M l v : Int, W * k * M - (W * k * (h * l) + N * v) = W * k * (M - h * l) - N * v := fun M l v => by grind
  rw [e, e]; exact g3
theorem has_sh (h1 : n0 <= n1) (hr : 0 <= r) {px py : Int} : nr (h * lx + n0 * (px - lx)) (h * ly + n0 * (py - ly)) (h * lx + n1 * (px - lx)) (h * ly + n1 * (py - ly)) mx my r = true ↔ Sh n0 n1 (mx - h * lx) (my - h * ly) r (px - lx) (py - ly) 1 := by
 rw [nr_iff hr]
 have e : ∀ n m M l p : Int, m * M - 1 * ((m - n) * (h * l + n0 * (p - l)) + n * (h * l + n1 * (p - l))) = m * 1 * (M - h * l) - ((m - n) * n0 + n * n1) * (p - l) := fun n m M l p => by grind
 constructor
 ·rintro ⟨n, m, k1, k2, k3, k4⟩
  rw [e, e] at k4
  have := iml h1 (show 0 <= m - n by omega)
  have := iml h1 k1
  have e1 : n0 * m = (m - n) * n0 + n * n0 := by grind
  have e2 : n1 * m = (m - n) * n1 + n * n1 := by grind
  exact ⟨_, m, k3, by omega, by omega, k4⟩
 ·rintro ⟨N, W, k1, k2, k3, k4⟩
  by_cases e0 : n0 = n1
  ·subst e0
   refine ⟨0, W, Int.le_refl 0, Int.le_of_lt k1, k1, ?_⟩
   rw [e, e]
   have : N = (W - 0) * n0 + 0 * n0 := by rw [Int.sub_zero, Int.zero_mul, Int.add_zero, Int.mul_comm]; omega
   rw [← this]; exact k4
  ·have hd : 0 < n1 - n0 := by omega
   refine ⟨N - n0 * W, W * (n1 - n0), by omega, ?_, Int.mul_pos k1 hd, ?_⟩
   ·have : W * (n1 - n0) = n1 * W - n0 * W := by grind
    omega
   ·rw [e, e]
    have e3 : (W * (n1 - n0) - (N - n0 * W)) * n0 + (N - n0 * W) * n1 = (n1 - n0) * N := by grind
    rw [e3]
    have e4 : ∀ M v : Int, W * (n1 - n0) * 1 * M - (n1 - n0) * N * v = (n1 - n0) * (W * 1 * M - N * v) := fun M v => by grind
    rw [e4, e4, q2_mul, show W * (n1 - n0) * 1 * r * (W * (n1 - n0) * 1 * r) = (n1 - n0) * (n1 - n0) * (W * 1 * r * (W * 1 * r)) by grind]
    exact iml k4 (sq0 _)
end
theorem ins_ex (p : P2) : ∀ c : List P2, c.Pairwise ltP -> ∃ d : List P2, d.Pairwise ltP /\ ∀ q, q ∈ d ↔ q = p ∨ q ∈ c
 | [], _ => ⟨[p], by simp, fun q => by simp⟩
 | a :: c, h => by
   rcases ltP_tri p a with hl | rfl | hl
   ·refine ⟨p :: a :: c, ?_, fun q => by simp⟩
    refine List.pairwise_cons.2 ⟨fun q hq => ?_, h⟩
    rcases List.mem_cons.1 hq with rfl | hq
    ·exact hl
    ·exact ltP_trans hl ((List.pairwise_cons.1 h).1 q hq)
   ·exact ⟨p :: c, h, fun q => by simp⟩
   ·obtain ⟨d, d1, d2⟩ := ins_ex p c (List.pairwise_cons.1 h).2
    refine ⟨a :: d, List.pairwise_cons.2 ⟨fun q hq => ?_, d1⟩, fun q => ?_⟩
    ·rcases (d2 q).1 hq with rfl | hq
     ·exact hl
     ·exact (List.pairwise_cons.1 h).1 q hq
    ·rw [List.mem_cons, List.mem_cons, d2]
     constructor
     ·rintro (h | h | h)
      ·exact .inr (.inl h)
      ·exact .inl h
      ·exact .inr (.inr h)
     ·rintro (h | h | h)
      ·exact .inr (.inl h)
      ·exact .inl h
      ·exact .inr (.inr h)
theorem sort_ex : ∀ L : List P2, ∃ c : List P2, c.Pairwise ltP /\ ∀ q, q ∈ c ↔ q ∈ L
 | [] => ⟨[], List.Pairwise.nil, fun q => Iff.rfl⟩
 | p :: L => by
   obtain ⟨c, c1, c2⟩ := sort_ex L
   obtain ⟨d, d1, d2⟩ := ins_ex p c c1
   exact ⟨d, d1, fun q => by rw [d2, c2, List.mem_cons]⟩
theorem cv_ref {L : List P2} (h0 : L ≠ []) {m : P2} {r : Int} (hr : 0 <= r) (h : CvN (fun q => q ∈ L) m.1 m.2 r) : RefT (fun q => q ∈ L) m r := by
 obtain ⟨c, c1, c2⟩ := sort_ex L
 have e : (fun q => q ∈ c) = fun q => q ∈ L := funext fun q => propext (c2 q)
 have hc : c ≠ [] := fun hn => by
  subst hn
  cases L with
  | nil => exact h0 rfl
  | cons a L => exact absurd ((c2 a).2 (by simp)) (by simp)
 rw [← e] at h ⊢
 exact (tp_iff c1 hc hr).1 (cv_tp c1 hc hr h)
theorem ref_iff {h lx ly n0 n1 mx my r X0 Y0 X1 Y1 : Int} {L : List P2} (hL : ∀ q, q ∈ L ↔ D8 h lx ly n0 n1 X0 Y0 X1 Y1 q) (hn : 0 <= n0) (h1 : n0 <= n1) (hX : X0 <= X1) (hY : Y0 <= Y1) (hr : 0 <= r) :
 RefT (fun q => q ∈ L) (mx, my) r ↔ Tou n0 n1 (mx - h * lx) (my - h * ly) r (X0 - lx) (Y0 - ly) (X1 - lx) (Y1 - ly) := by
 have e : (fun q => q ∈ L) = D8 h lx ly n0 n1 X0 Y0 X1 Y1 := funext fun q => propext (hL q)
 constructor
 ·intro hf; rw [e] at hf; exact ref_tou hn h1 hX hY hr hf
 ·intro ht
  have hc := tou_cv hn ht
  rw [← e] at hc
  refine cv_ref (fun hn => ?_) hr hc
  subst hn
  exact absurd ((hL _).2 ⟨n0, X0, Y0, .inl rfl, .inl rfl, .inl rfl, rfl⟩) (by simp)
end Go.Dx
namespace Go.Dx
open Go.IntKind (i64 u64 u8)
open Go.Sx
noncomputable section
section
variable {X Y h tx ty R lo hi x9 x10 x11 x12 px py : Int}
def shP (X Y h tx ty R lo hi px py : Int) : Prop := lo <= h /\ Sh (max 0 (h - hi)) (h - lo) (h * tx - h * X) (h * ty - h * Y) (h * R) (px - X) (py - Y) 1
def toP (X Y h tx ty R lo hi x9 x10 x11 x12 : Int) : Prop := lo <= h /\ Tou (max 0 (h - hi)) (h - lo) (h * tx - h * X) (h * ty - h * Y) (h * R) (x9 - X) (x10 - Y) (x11 - X) (x12 - Y)
theorem TC.has_v (t : TC X Y h tx ty R lo hi) (hx : -100000 <= px /\ px <= 100000) (hy : -100000 <= py /\ py <= 100000) : F49_0 X Y h (F48_0 h hi) (F48_1 h lo) (F48_2 h tx) (F48_3 h ty) (F48_4 h R) (F48_5 h lo) px py = true ↔ shP X Y h tx ty R lo hi px py := by
 obtain ⟨e1, e1', e2, e2', e3, e3', e4, e4', e5, e5', s1, s2, s3, s4⟩ := t.vals
 have := t.h'; have := t.lo'
 unfold F49_0 shP
 cases hb : F48_5 h lo with
 | true =>
   unfold F48_5 at hb
   have hb := of_decide_eq_true hb
   simp only [Bool.not_true, cond_false]
   constructor
   ·intro h; cases h
   ·intro h; omega
 | false =>
   rw [Bool.not_false, cond_true, e1, e2, e3, e4, e5]
   unfold F48_5 at hb
   have hb := of_decide_eq_false hb
   have p0 := atS t.X' (h := h) (n := max 0 (h - hi)) (by omega) (by omega) hx
   have p1 := atS t.Y' (h := h) (n := max 0 (h - hi)) (by omega) (by omega) hy
   have q0 := atS t.X' (h := h) (n := h - lo) (by omega) (by omega) hx
   have q1 := atS t.Y' (h := h) (n := h - lo) (by omega) (by omega) hy
   rw [p0.1, p1.2.1, q0.1, q1.2.1, near_p p0.2.2 p1.2.2 q0.2.2 q1.2.2 s1 s2 s3 s4, has_sh (by omega) s3]
   exact ⟨fun h => ⟨by omega, h⟩, fun h => h.2⟩
theorem TC.tou_v (t : TC X Y h tx ty R lo hi) (h9 : -100000 <= x9 /\ x9 <= 100000) (h10 : -100000 <= x10 /\ x10 <= 100000) (h11 : -100000 <= x11 /\ x11 <= 100000) (h12 : -100000 <= x12 /\ x12 <= 100000) (hX : x9 <= x11) (hY : x10 <= x12) :
 F57 X Y h (F48_0 h hi) (F48_1 h lo) (F48_2 h tx) (F48_3 h ty) (F48_4 h R) (F48_5 h lo) x9 x10 x11 x12 = true ↔ toP X Y h tx ty R lo hi x9 x10 x11 x12 := by
 obtain ⟨e1, e1', e2, e2', e3, e3', e4, e4', e5, e5', s1, s2, s3, s4⟩ := t.vals
 have := t.h'; have := t.lo'
 unfold F57 toP
 cases hb : F48_5 h lo with
 | true =>
   unfold F48_5 at hb
   have hb := of_decide_eq_true hb
   simp only [Bool.not_true, Bool.false_and]
   constructor
   ·intro h; cases h
   ·intro h; omega
 | false =>
   unfold F48_5 at hb
   have hb := of_decide_eq_false hb
   rw [Bool.not_false, Bool.true_and, e1, e2, e3, e4, e5]
   have hL : ∀ q, q ∈ pl57 X Y h (max 0 (h - hi)) (h - lo) x9 x10 x11 x12 ↔ D8 h X Y (max 0 (h - hi)) (h - lo) x9 x10 x11 x12 q := by
    have u : ∀ {c}, -100000 <= c /\ c <= 100000 -> F102_0 X h c (max 0 (h - hi)) = h * X + max 0 (h - hi) * (c - X) /\ F102_0 X h c (h - lo) = h * X + (h - lo) * (c - X) := fun hc => ⟨(atS t.X' (h := h) (n := max 0 (h - hi)) (by omega) (by omega) hc).1, (atS t.X' (h := h) (n := h - lo) (by omega) (by omega) hc).1⟩
    have v : ∀ {c}, -100000 <= c /\ c <= 100000 -> F102_1 Y h c (max 0 (h - hi)) = h * Y + max 0 (h - hi) * (c - Y) /\ F102_1 Y h c (h - lo) = h * Y + (h - lo) * (c - Y) := fun hc => ⟨(atS t.Y' (h := h) (n := max 0 (h - hi)) (by omega) (by omega) hc).2.1, (atS t.Y' (h := h) (n := h - lo) (by omega) (by omega) hc).2.1⟩
    intro q
    unfold pl57
    rw [(u h9).1, (u h9).2, (u h11).1, (u h11).2, (v h10).1, (v h10).2, (v h12).1, (v h12).2]
    simp only [List.mem_cons, List.not_mem_nil, or_false]
    constructor
    ·rintro (e | e | e | e | e | e | e | e)
     ·exact ⟨_, _, _, .inl rfl, .inl rfl, .inl rfl, e⟩
     ·exact ⟨_, _, _, .inr rfl, .inl rfl, .inl rfl, e⟩
     ·exact ⟨_, _, _, .inl rfl, .inr rfl, .inl rfl, e⟩
     ·exact ⟨_, _, _, .inr rfl, .inr rfl, .inl rfl, e⟩
     ·exact ⟨_, _, _, .inl rfl, .inr rfl, .inr rfl, e⟩
     ·exact ⟨_, _, _, .inr rfl, .inr rfl, .inr rfl, e⟩
     ·exact ⟨_, _, _, .inl rfl, .inl rfl, .inr rfl, e⟩
     ·exact ⟨_, _, _, .inr rfl, .inl rfl, .inr rfl, e⟩
    ·rintro ⟨n, cx, cy, rfl | rfl, rfl | rfl, rfl | rfl, e⟩
     ·exact .inl e
     ·exact .inr (.inr (.inr (.inr (.inr (.inr (.inl e))))))
     ·exact .inr (.inr (.inl e))
     ·exact .inr (.inr (.inr (.inr (.inl e))))
     ·exact .inr (.inl e)
     ·exact .inr (.inr (.inr (.inr (.inr (.inr (.inr e))))))
     ·exact .inr (.inr (.inr (.inl e)))
     ·exact .inr (.inr (.inr (.inr (.inr (.inl e)))))
   have hf := ref_iff (mx := h * tx) (my := h * ty) hL (by omega) (by omega) hX hY s3
   constructor
   ·intro hr
    refine ⟨by omega, hf.1 ?_⟩
    exact @of_decide_eq_true _ (Classical.propDecidable _) hr
   ·intro hr
    exact refB_t (hf.2 hr.2)
end
section
variable {n0 : Nat} {f0 : Nat -> List V} {n2 : Nat} {f2 : Nat -> List V} {n4 : Nat} {f4 : Nat -> List V} {n6 : Nat} {f6 : Nat -> List V} {x8 : Int}
def shA (f2 f6 : Nat -> List V) (x8 : Int) (i : Nat) (x y : Int) : Prop := shP (jv1 (f6 x8.toNat)) (jv2 (f6 x8.toNat)) (jv3 (f6 x8.toNat)) (jv0 (f2 i)) (jv1 (f2 i)) (jv2 (f2 i)) (jv3 (f2 i)) (jv4 (f2 i)) x y
def toA8 (f2 f6 : Nat -> List V) (x8 : Int) (i : Nat) (a b c d : Int) : Prop := toP (jv1 (f6 x8.toNat)) (jv2 (f6 x8.toNat)) (jv3 (f6 x8.toNat)) (jv0 (f2 i)) (jv1 (f2 i)) (jv2 (f2 i)) (jv3 (f2 i)) (jv4 (f2 i)) a b c d
def ecol (n0 : Nat) (f0 : FnV) (n2 : Nat) (f2 : FnV) (n4 : Nat) (f4 : FnV) (n6 : Nat) (f6 : FnV) (x8 : Int) (m : Nat) : Int := ix1 (F24_2 n0 (elV tyR f0) n2 (elV tyT f2) n4 (elV tyF f4) n6 (elV tyC f6)) x8 m
theorem shaded_v {x9 x10 : Int} : F15_1 n0 f0 n2 f2 n4 f4 n6 f6 x8 x9 x10 = (bif ecol n0 f0 n2 f2 n4 f4 n6 f6 x8 n6 != 0 then ecol n0 f0 n2 f2 n4 f4 n6 f6 x8 n6 else bif !ptOk x9 x10 then 7 else 0) /\
 (ecol n0 f0 n2 f2 n4 f4 n6 f6 x8 n6 = 0 -> ptOk x9 x10 = true -> ∃ p : Nat -> Bool, F15_0 n0 f0 n2 f2 n4 f4 n6 f6 x8 x9 x10 = idx n2 p /\ ∀ i, i < n2 -> (p i = true ↔ shA f2 f6 x8 i x9 x10)) := by
 have hc := chk2 (n0 := n0) (f0 := f0) (n2 := n2) (f2 := f2) (n4 := n4) (f4 := f4) (n6 := n6) (f6 := f6) (i := x8) (m := n6) (fun h => by have := (valid h).l6; omega)
 unfold F15_0 F15_1 ecol
 rw [hc]
 refine ⟨?_, fun he hp => ?_⟩
 ·rw [wild_placed]; rfl
 ·rw [he, wild_placed]
  have hp' : F51 2 (elV tp1 (secF [vi x9, vi x10] 0 1)) = true := hp
  refine ⟨_, by rw [hp']; exact rfl, fun i hi => ?_⟩
  have hq := pt_in hp
  exact ((sc_in he).2 i hi).has_v hq.1 hq.2
theorem shade_v {x9 x10 x11 x12 : Int} : F17_1 n0 f0 n2 f2 n4 f4 n6 f6 x8 x9 x10 x11 x12 = (bif ecol n0 f0 n2 f2 n4 f4 n6 f6 x8 n6 != 0 then ecol n0 f0 n2 f2 n4 f4 n6 f6 x8 n6 else bif !F58_0 x9 x10 x11 x12 then 7 else 0) /\
 (ecol n0 f0 n2 f2 n4 f4 n6 f6 x8 n6 = 0 -> F58_0 x9 x10 x11 x12 = true -> ∃ d t : Nat -> Bool, F17_0 n0 f0 n2 f2 n4 f4 n6 f6 x8 x9 x10 x11 x12 = shadeF d t n2 /\ ∀ i, i < n2 -> (d i = true ↔ shA f2 f6 x8 i x9 x10 /\ shA f2 f6 x8 i x11 x10 /\ shA f2 f6 x8 i x11 x12 /\ shA f2 f6 x8 i x9 x12) /\ (t i = true ↔ toA8 f2 f6 x8 i x9 x10 x11 x12)) := by
 have hc := chk2 (n0 := n0) (f0 := f0) (n2 := n2) (f2 := f2) (n4 := n4) (f4 := f4) (n6 := n6) (f6 := f6) (i := x8) (m := n6) (fun h => by have := (valid h).l6; omega)
 unfold F17_0 F17_1 ecol
 rw [hc, rough_eq]
 refine ⟨rfl, fun he hp => ?_⟩
 rw [he, hp]
 refine ⟨d17 n0 f0 n2 f2 n4 f4 n6 f6 x8 x9 x10 x11 x12, t17 n0 f0 n2 f2 n4 f4 n6 f6 x8 x9 x10 x11 x12, best_shade _ _ _, fun i hi => ?_⟩
 have hq := patch_in hp
 have t := (sc_in he).2 i hi
 refine ⟨?_, t.tou_v hq.1 hq.2.1 hq.2.2.1 hq.2.2.2.1 hq.2.2.2.2.1 hq.2.2.2.2.2⟩
 unfold d17 F55_0 F108
 rw [idx_geq]
 refine Iff.trans (Eq.to_iff (congrArg (· = true) all4)) ?_
 simp only [Bool.and_eq_true]
 exact and_congr (t.has_v hq.1 hq.2.1) (and_congr (t.has_v hq.2.2.1 hq.2.1) (and_congr (t.has_v hq.2.2.1 hq.2.2.2.1) (t.has_v hq.1 hq.2.2.2.1)))
end
end
end Go.Dx
namespace Go.Dx
open Go.Sx
noncomputable section
section
variable {ax ay bx b2 w X0 Y0 X1 Y1 : Int}
theorem far_end (h1 : sm ax) (h2 : sm ay) (g1 : pl X0) (g2 : pl Y0) (g3 : pl X1) (g4 : pl Y1) (h7 : 0 <= w) (h8 : w <= 1073741824) : far2 ax ay X0 Y0 X1 Y1 <= IntKind.i64.wrap (w * w) ↔ Endn ax ay (2 * X0) (2 * Y0) (2 * X1) (2 * Y1) w := by
 unfold far2 Endn q2
 rw [(dbl g1).1, (dbl g2).1, (dbl g3).1, (dbl g4).1]
 unfold sm at h1 h2
 unfold pl at g1 g2 g3 g4
 rw [wrapI (x := 2 * X0 - ax) (by omega) (by omega), wrapI (x := ax - 2 * X1) (by omega) (by omega), wrapI (x := 2 * Y0 - ay) (by omega) (by omega), wrapI (x := ay - 2 * Y1) (by omega) (by omega)]
 rw [Int.max_comm 0 (2 * X0 - ax), Int.max_comm 0 (2 * Y0 - ay)]
 have p0 : 0 <= max (max (2 * X0 - ax) 0) (ax - 2 * X1) /\ max (max (2 * X0 - ax) 0) (ax - 2 * X1) <= 1073741824 := by omega
 have q0 : 0 <= max (max (2 * Y0 - ay) 0) (ay - 2 * Y1) /\ max (max (2 * Y0 - ay) 0) (ay - 2 * Y1) <= 1073741824 := by omega
 generalize max (max (2 * X0 - ax) 0) (ax - 2 * X1) = p at p0 ⊢
 generalize max (max (2 * Y0 - ay) 0) (ay - 2 * Y1) = q at q0 ⊢
 have hr := mulS (x := w) (y := w) (A := 1073741824) (B := 1073741824) (by omega) h8 (by omega) h8
 have hp := mulS (x := p) (y := p) (A := 1073741824) (B := 1073741824) (by omega) p0.2 (by omega) p0.2
 have hq := mulS (x := q) (y := q) (A := 1073741824) (B := 1073741824) (by omega) q0.2 (by omega) q0.2
 rw [wrapI (x := w * w) (by omega) (by omega), wrapI (x := p * p) (by omega) (by omega), wrapI (x := q * q) (by omega) (by omega), wrapI (x := p * p + q * q) (by omega) (by omega)]
theorem piece_v (h1 : sm ax) (h2 : sm ay) (h3 : sm bx) (h4 : sm b2) (g1 : pl X0) (g2 : pl Y0) (g3 : pl X1) (g4 : pl Y1) (hX : X0 <= X1) (hY : Y0 <= Y1) (h7 : 0 <= w) (h8 : w <= 1073741824) :
 (F111_0 ax ay bx b2 w X0 Y0 X1 Y1 = 2 ↔ nr ax ay bx b2 (2 * X0) (2 * Y0) w = true /\ nr ax ay bx b2 (2 * X1) (2 * Y0) w = true /\ nr ax ay bx b2 (2 * X1) (2 * Y1) w = true /\ nr ax ay bx b2 (2 * X0) (2 * Y1) w = true) /\
 (F111_0 ax ay bx b2 w X0 Y0 X1 Y1 = 0 ↔ ¬ Hit ax ay bx b2 (2 * X0) (2 * Y0) (2 * X1) (2 * Y1) w) /\ 0 <= F111_0 ax ay bx b2 w X0 Y0 X1 Y1 /\ F111_0 ax ay bx b2 w X0 Y0 X1 Y1 <= 2 := by
 have hH : Hit ax ay bx b2 (2 * X0) (2 * Y0) (2 * X1) (2 * Y1) w ↔ (nr ax ay bx b2 (2 * X0) (2 * Y0) w = true ∨ nr ax ay bx b2 (2 * X1) (2 * Y0) w = true ∨ nr ax ay bx b2 (2 * X1) (2 * Y1) w = true ∨ nr ax ay bx b2 (2 * X0) (2 * Y1) w = true) ∨ far2 ax ay X0 Y0 X1 Y1 <= IntKind.i64.wrap (w * w) ∨ far2 bx b2 X0 Y0 X1 Y1 <= IntKind.i64.wrap (w * w) ∨ F145_0 ax ay bx b2 X0 Y0 X1 Y1 = true := by
  rw [hit_res h7 (by omega) (by omega), far_end h1 h2 g1 g2 g3 g4 h7 h8, far_end h3 h4 g1 g2 g3 g4 h7 h8, thr_p h1 h2 h3 h4 g1 g2 g3 g4]
  unfold Res
  refine or_congr ?_ (or_congr Iff.rfl (or_congr Iff.rfl ?_))
  ·rw [nr_iff h7, nr_iff h7, nr_iff h7, nr_iff h7]
   constructor
   ·rintro ⟨cx, cy, rfl | rfl, rfl | rfl, h⟩
    ·exact .inl h
    ·exact .inr (.inr (.inr h))
    ·exact .inr (.inl h)
    ·exact .inr (.inr (.inl h))
   ·rintro (h | h | h | h)
    ·exact ⟨_, _, .inl rfl, .inl rfl, h⟩
    ·exact ⟨_, _, .inr rfl, .inl rfl, h⟩
    ·exact ⟨_, _, .inr rfl, .inr rfl, h⟩
    ·exact ⟨_, _, .inl rfl, .inr rfl, h⟩
  ·constructor
   ·intro h
    obtain ⟨k1, ⟨cx, cy, k2, k3, k4⟩, dx, dy, k5, k6, k7⟩ := meet_sides (by omega) (by omega) h
    refine ⟨k1, ?_, ?_⟩
    ·rcases k2 with rfl | rfl <;> rcases k3 with rfl | rfl
     ·exact .inl k4
     ·exact .inr (.inr (.inr k4))
     ·exact .inr (.inl k4)
     ·exact .inr (.inr (.inl k4))
    ·rcases k5 with rfl | rfl <;> rcases k6 with rfl | rfl
     ·exact .inl k7
     ·exact .inr (.inr (.inr k7))
     ·exact .inr (.inl k7)
     ·exact .inr (.inr (.inl k7))
   ·rintro ⟨k1, k2, k3⟩
    refine sat_meet (by omega) (by omega) k1 ⟨?_, ?_⟩
    ·rcases k2 with h | h | h | h
     ·exact ⟨_, _, .inl rfl, .inl rfl, h⟩
     ·exact ⟨_, _, .inr rfl, .inl rfl, h⟩
     ·exact ⟨_, _, .inr rfl, .inr rfl, h⟩
     ·exact ⟨_, _, .inl rfl, .inr rfl, h⟩
    ·rcases k3 with h | h | h | h
     ·exact ⟨_, _, .inl rfl, .inl rfl, h⟩
     ·exact ⟨_, _, .inr rfl, .inl rfl, h⟩
     ·exact ⟨_, _, .inr rfl, .inr rfl, h⟩
     ·exact ⟨_, _, .inl rfl, .inr rfl, h⟩
 rw [hH]
 unfold F111_0
 rw [far_p, far_p]
 rw [corner_p h1 h2 h3 h4 h7 h8 g1 g2, corner_p h1 h2 h3 h4 h7 h8 g3 g2, corner_p h1 h2 h3 h4 h7 h8 g3 g4, corner_p h1 h2 h3 h4 h7 h8 g1 g4]
 generalize nr ax ay bx b2 (2 * X0) (2 * Y0) w = n0
 generalize nr ax ay bx b2 (2 * X1) (2 * Y0) w = n1
 generalize nr ax ay bx b2 (2 * X1) (2 * Y1) w = n2
 generalize nr ax ay bx b2 (2 * X0) (2 * Y1) w = n3
 generalize F145_0 ax ay bx b2 X0 Y0 X1 Y1 = t
 by_cases m1 : far2 ax ay X0 Y0 X1 Y1 <= IntKind.i64.wrap (w * w)
 ·simp only [m1, decide_true]
  cases n0 <;> cases n1 <;> cases n2 <;> cases n3 <;> simp
 ·simp only [m1, decide_false]
  by_cases m2 : far2 bx b2 X0 Y0 X1 Y1 <= IntKind.i64.wrap (w * w)
  ·simp only [m2, decide_true]
   cases n0 <;> cases n1 <;> cases n2 <;> cases n3 <;> simp
  ·simp only [m2, decide_false]
   cases n0 <;> cases n1 <;> cases n2 <;> cases n3 <;> cases t <;> simp
end
theorem maxTo_nn {p : Nat -> Int} : ∀ n, 0 <= maxTo p n
 | 0 => Int.le_refl 0
 | n + 1 => by have := maxTo_nn (p := p) n; simp only [maxTo]; omega
def pxD (f : Nat -> List V) (i : Nat) : Int := 2 * jv0 (f i)
def pyD (f : Nat -> List V) (i : Nat) : Int := 2 * jv1 (f i)
def OnP (f : Nat -> List V) (w px py k : Int) (i : Nat) : Prop := Nq (pxD f i) (pyD f i) (pxD f (i + 1)) (pyD f (i + 1)) (2 * px) (2 * py) k w
section
variable {n : Nat} {f : Nat -> List V} {w : Int}
theorem p61_v (hr : RoadIn n f w) {i : Nat} (hi : i < n - 1) {X0 Y0 X1 Y1 : Int} (g1 : pl X0) (g2 : pl Y0) (g3 : pl X1) (g4 : pl Y1) (hX : X0 <= X1) (hY : Y0 <= Y1) :
 (p61 n f w X0 Y0 X1 Y1 i = 2 ↔ OnP f w X0 Y0 1 i /\ OnP f w X1 Y0 1 i /\ OnP f w X1 Y1 1 i /\ OnP f w X0 Y1 1 i) /\
 (p61 n f w X0 Y0 X1 Y1 i = 0 ↔ ¬ Hit (pxD f i) (pyD f i) (pxD f (i + 1)) (pyD f (i + 1)) (2 * X0) (2 * Y0) (2 * X1) (2 * Y1) w) /\ 0 <= p61 n f w X0 Y0 X1 Y1 i /\ p61 n f w X0 Y0 X1 Y1 i <= 2 := by
 have hj : i + 1 < n := by omega
 obtain ⟨a1, a2⟩ := hr.pts i (by omega)
 obtain ⟨b1, b2⟩ := hr.pts (i + 1) hj
 have := hr.w1
 have := hr.w2
 have hw := w1p (j := i) (n := n) (by omega) hr.eight
 unfold p61
 rw [hw]
 have k := piece_v (ax := IntKind.i64.wrap (2 * jv0 (f i))) (ay := IntKind.i64.wrap (2 * jv1 (f i))) (bx := IntKind.i64.wrap (2 * jv0 (f (i + 1)))) (b2 := IntKind.i64.wrap (2 * jv1 (f (i + 1)))) (w := w)
  (by rw [(dpt a1).1]; exact (dpt a1).2) (by rw [(dpt a2).1]; exact (dpt a2).2) (by rw [(dpt b1).1]; exact (dpt b1).2) (by rw [(dpt b2).1]; exact (dpt b2).2) g1 g2 g3 g4 hX hY (by omega) (by omega)
 rw [nr_iff (by omega), nr_iff (by omega), nr_iff (by omega), nr_iff (by omega), (dpt a1).1, (dpt a2).1, (dpt b1).1, (dpt b2).1] at k
 unfold OnP pxD pyD
 rw [(dpt a1).1, (dpt a2).1, (dpt b1).1, (dpt b2).1]
 exact k
theorem p74_v (hr : RoadIn n f w) {i : Nat} (hi : i < n - 1) {x y : Int} (g1 : pl x) (g2 : pl y) : p74 n f w x y i = true ↔ OnP f w x y 1 i := by
 have hj : i + 1 < n := by omega
 obtain ⟨a1, a2⟩ := hr.pts i (by omega)
 obtain ⟨b1, b2⟩ := hr.pts (i + 1) hj
 have := hr.w1
 have := hr.w2
 have hw := w1p (j := i) (n := n) (by omega) hr.eight
 unfold p74 OnP pxD pyD
 rw [hw]
 have s1 : sm (IntKind.i64.wrap (2 * jv0 (f i))) := by rw [(dpt a1).1]; exact (dpt a1).2
 have s2 : sm (IntKind.i64.wrap (2 * jv1 (f i))) := by rw [(dpt a2).1]; exact (dpt a2).2
 have s3 : sm (IntKind.i64.wrap (2 * jv0 (f (i + 1)))) := by rw [(dpt b1).1]; exact (dpt b1).2
 have s4 : sm (IntKind.i64.wrap (2 * jv1 (f (i + 1)))) := by rw [(dpt b2).1]; exact (dpt b2).2
 rw [corner_p s1 s2 s3 s4 (by omega) (by omega) g1 g2, nr_iff (by omega), (dpt a1).1, (dpt a2).1, (dpt b1).1, (dpt b2).1]
theorem F61_0 (hr : RoadIn n f w) {X0 Y0 X1 Y1 : Int} (g1 : pl X0) (g2 : pl Y0) (g3 : pl X1) (g4 : pl Y1) (hX : X0 <= X1) (hY : Y0 <= Y1) :
 F61 n f w X0 Y0 X1 Y1 ≠ 0 ↔ ∃ i, i < n - 1 /\ Hit (pxD f i) (pyD f i) (pxD f (i + 1)) (pyD f (i + 1)) (2 * X0) (2 * Y0) (2 * X1) (2 * Y1) w := by
 unfold F61
 constructor
 ·intro h
  apply Classical.byContradiction; intro hn
  apply h
  have : maxTo (p61 n f w X0 Y0 X1 Y1) (n - 1) <= 0 := maxTo_le (Int.le_refl 0) fun i hi => by
   have k := p61_v hr hi g1 g2 g3 g4 hX hY
   have := k.2.1.2 fun hh => hn ⟨i, hi, hh⟩
   omega
  have := maxTo_nn (p := p61 n f w X0 Y0 X1 Y1) (n - 1)
  omega
 ·rintro ⟨i, hi, hh⟩
  have k := p61_v hr hi g1 g2 g3 g4 hX hY
  have := maxTo_ge (p := p61 n f w X0 Y0 X1 Y1) hi
  have h0 : p61 n f w X0 Y0 X1 Y1 i ≠ 0 := fun h => k.2.1.1 h hh
  omega
end
end
end Go.Dx
namespace Go.Dx
open Go.IntKind (i64 u64 u8)
open Go.Sx
noncomputable section
section
variable {ax ay bx b2 r X0 Y0 X1 Y1 : Int}
theorem nq_row {a b x y : Int} (hr : 0 <= r) (h1 : Nq ax ay bx b2 a y 1 r) (h2 : Nq ax ay bx b2 b y 1 r) (ha : a <= x) (hb : x <= b) : Nq ax ay bx b2 x y 1 r := by
 by_cases e : a = b
 ·rw [show x = a by omega]; exact h1
 ·have h := Nq.cv (j := x - a) (l := b - a) hr (by omega) h1 h2 (by omega) (by omega) (by omega)
  rw [show (b - a - (x - a)) * a + (x - a) * b = (b - a) * x by grind, show (b - a - (x - a)) * y + (x - a) * y = (b - a) * y by grind] at h
  rw [Int.one_mul] at h
  exact (Nq.scale (k := 1) (l := b - a) (by omega)).2 (by rw [Int.mul_one]; exact h)
theorem nq_col {a b x y : Int} (hr : 0 <= r) (h1 : Nq ax ay bx b2 x a 1 r) (h2 : Nq ax ay bx b2 x b 1 r) (ha : a <= y) (hb : y <= b) : Nq ax ay bx b2 x y 1 r := by
 by_cases e : a = b
 ·rw [show y = a by omega]; exact h1
 ·have h := Nq.cv (j := y - a) (l := b - a) hr (by omega) h1 h2 (by omega) (by omega) (by omega)
  rw [show (b - a - (y - a)) * a + (y - a) * b = (b - a) * y by grind, show (b - a - (y - a)) * x + (y - a) * x = (b - a) * x by grind] at h
  rw [Int.one_mul] at h
  exact (Nq.scale (k := 1) (l := b - a) (by omega)).2 (by rw [Int.mul_one]; exact h)
theorem Hit.sub {U0 V0 U1 V1 : Int} (h : Hit ax ay bx b2 X0 Y0 X1 Y1 r) (a1 : U0 <= X0) (a2 : X1 <= U1) (b1 : V0 <= Y0) (b2' : Y1 <= V1) : Hit ax ay bx b2 U0 V0 U1 V1 r := by
 obtain ⟨px, py, k, hk, h1, h2, h3⟩ := h
 have hk0 := Int.le_of_lt hk
 have := iml a1 hk0
 have := iml a2 hk0
 have := iml b1 hk0
 have := iml b2' hk0
 exact ⟨px, py, k, hk, by omega, by omega, h3⟩
theorem Hit.pt {x y : Int} (h : Hit ax ay bx b2 x y x y r) : Nq ax ay bx b2 x y 1 r := by
 obtain ⟨px, py, k, hk, h1, h2, h3⟩ := h
 refine (Nq.scale (k := 1) hk).2 ?_
 rw [Int.mul_one, show k * x = px by omega, show k * y = py by omega]
 exact h3
theorem Hit.of {x y : Int} (h : Nq ax ay bx b2 x y 1 r) (a1 : X0 <= x) (a2 : x <= X1) (b1 : Y0 <= y) (b2' : y <= Y1) : Hit ax ay bx b2 X0 Y0 X1 Y1 r := ⟨x, y, 1, by omega, by omega, by omega, h⟩
theorem Nq.wide {px py k s : Int} (hr : 0 <= r) (hs : r <= s) (hk : 0 < k) (h : Nq ax ay bx b2 px py k r) : Nq ax ay bx b2 px py k s := by
 obtain ⟨n, m, h1, h2, h3, h4⟩ := h
 have hmk : 0 <= m * k := Int.le_of_lt (Int.mul_pos h3 hk)
 exact ⟨n, m, h1, h2, h3, Int.le_trans h4 (Int.mul_le_mul (iml hs hmk) (iml hs hmk) (imn hmk hr) (imn hmk (Int.le_trans hr hs)))⟩
end
section
variable {n : Nat} {f : Nat -> List V} {w X0 Y0 X1 Y1 : Int}
theorem OnP.all {x y : Int} {i : Nat} (hw : 0 <= w) (h : OnP f w X0 Y0 1 i /\ OnP f w X1 Y0 1 i /\ OnP f w X1 Y1 1 i /\ OnP f w X0 Y1 1 i) (a1 : X0 <= x) (a2 : x <= X1) (b1 : Y0 <= y) (b2 : y <= Y1) : OnP f w x y 1 i :=
 nq_col hw (nq_row hw h.1 h.2.1 (by omega) (by omega)) (nq_row hw h.2.2.2 h.2.2.1 (by omega) (by omega)) (by omega) (by omega)
theorem F61_2 (hr : RoadIn n f w) (g1 : pl X0) (g2 : pl Y0) (g3 : pl X1) (g4 : pl Y1) (hX : X0 <= X1) (hY : Y0 <= Y1) :
 (F61 n f w X0 Y0 X1 Y1 = 2 ↔ ∃ i, i < n - 1 /\ OnP f w X0 Y0 1 i /\ OnP f w X1 Y0 1 i /\ OnP f w X1 Y1 1 i /\ OnP f w X0 Y1 1 i) /\ 0 <= F61 n f w X0 Y0 X1 Y1 /\ F61 n f w X0 Y0 X1 Y1 <= 2 := by
 unfold F61
 have hle : maxTo (p61 n f w X0 Y0 X1 Y1) (n - 1) <= 2 := maxTo_le (by decide) fun i hi => (p61_v hr hi g1 g2 g3 g4 hX hY).2.2.2
 refine ⟨⟨fun h => ?_, ?_⟩, maxTo_nn _, hle⟩
 ·apply Classical.byContradiction; intro hn
  have : maxTo (p61 n f w X0 Y0 X1 Y1) (n - 1) <= 1 := maxTo_le (by decide) fun i hi => by
   have k := p61_v hr hi g1 g2 g3 g4 hX hY
   have := k.2.2.2
   have h0 : p61 n f w X0 Y0 X1 Y1 i ≠ 2 := fun h => hn ⟨i, hi, k.1.1 h⟩
   omega
  omega
 ·rintro ⟨i, hi, hh⟩
  have := maxTo_ge (p := p61 n f w X0 Y0 X1 Y1) hi
  have := (p61_v hr hi g1 g2 g3 g4 hX hY).1.2 hh
  omega
theorem F74_v (hr : RoadIn n f w) {x y : Int} (g1 : pl x) (g2 : pl y) : F74 n f w x y = true ↔ ∃ i, i < n - 1 /\ OnP f w x y 1 i := by
 unfold F74
 rw [exB_iff]
 exact ⟨fun ⟨i, hi, h⟩ => ⟨i, hi, (p74_v hr hi g1 g2).1 h⟩, fun ⟨i, hi, h⟩ => ⟨i, hi, (p74_v hr hi g1 g2).2 h⟩⟩
theorem F61_sub {U0 V0 U1 V1 : Int} (hr : RoadIn n f w) (g1 : pl X0) (g2 : pl Y0) (g3 : pl X1) (g4 : pl Y1) (a1 : X0 <= U0) (a2 : U0 <= U1) (a3 : U1 <= X1) (b1 : Y0 <= V0) (b2 : V0 <= V1) (b3 : V1 <= Y1) (h : F61 n f w X0 Y0 X1 Y1 = 2) : F61 n f w U0 V0 U1 V1 = 2 := by
 have := hr.w1
 unfold pl at g1 g2 g3 g4
 obtain ⟨i, hi, hh⟩ := (F61_2 hr g1 g2 g3 g4 (by omega) (by omega)).1.1 h
 refine (F61_2 hr (by unfold pl; omega) (by unfold pl; omega) (by unfold pl; omega) (by unfold pl; omega) a2 b2).1.2 ⟨i, hi, ?_⟩
 exact ⟨OnP.all (by omega) hh (by omega) (by omega) (by omega) (by omega), OnP.all (by omega) hh (by omega) (by omega) (by omega) (by omega), OnP.all (by omega) hh (by omega) (by omega) (by omega) (by omega), OnP.all (by omega) hh (by omega) (by omega) (by omega) (by omega)⟩
theorem F61_up {U0 V0 U1 V1 : Int} (hr : RoadIn n f w) (g1 : pl X0) (g2 : pl Y0) (g3 : pl X1) (g4 : pl Y1) (a1 : X0 <= U0) (a2 : U0 <= U1) (a3 : U1 <= X1) (b1 : Y0 <= V0) (b2 : V0 <= V1) (b3 : V1 <= Y1) (h : F61 n f w U0 V0 U1 V1 ≠ 0) : F61 n f w X0 Y0 X1 Y1 ≠ 0 := by
 unfold pl at g1 g2 g3 g4
 obtain ⟨i, hi, hh⟩ := (F61_0 hr (by unfold pl; omega) (by unfold pl; omega) (by unfold pl; omega) (by unfold pl; omega) a2 b2).1 h
 exact (F61_0 hr g1 g2 g3 g4 (by omega) (by omega)).2 ⟨i, hi, hh.sub (by omega) (by omega) (by omega) (by omega)⟩
theorem F61_pt (hr : RoadIn n f w) {x y : Int} (g1 : pl x) (g2 : pl y) : (F61 n f w x y x y = 2 ↔ F74 n f w x y = true) /\ (F61 n f w x y x y = 0 ↔ F74 n f w x y = false) := by
 have h2 := F61_2 hr g1 g2 g1 g2 (Int.le_refl x) (Int.le_refl y)
 have h0 := F61_0 hr g1 g2 g1 g2 (Int.le_refl x) (Int.le_refl y)
 have hv := F74_v hr g1 g2
 have key : F61 n f w x y x y = 2 ↔ F74 n f w x y = true := by
  rw [h2.1, hv]
  exact ⟨fun ⟨i, hi, h, _⟩ => ⟨i, hi, h⟩, fun ⟨i, hi, h⟩ => ⟨i, hi, h, h, h, h⟩⟩
 refine ⟨key, ?_⟩
 constructor
 ·intro h
  cases hb : F74 n f w x y with
  | false => rfl
  | true => have := key.2 hb; omega
 ·intro h
  apply Classical.byContradiction; intro hn
  obtain ⟨i, hi, hh⟩ := h0.1 hn
  rw [hv.2 ⟨i, hi, hh.pt⟩] at h; cases h
end
end
noncomputable section
theorem from_of {a l h : Int} (h1 : l <= a) (h2 : a <= h) : F71_0 a l h = true := by unfold F71_0; simp [h1, h2]
theorem patch_of {a b c d : Int} (ha : -100000 <= a /\ a <= 100000) (hb : -100000 <= b /\ b <= 100000) (hc : -100000 <= c /\ c <= 100000) (hd : -100000 <= d /\ d <= 100000) (h1 : a <= c) (h2 : b <= d) : F58_0 a b c d = true := by
 have hp : F51 4 (elV tp1 (secF [vi a, vi b, vi c, vi d] 0 1)) = true := by
  unfold F51
  refine allB_of fun i hi => ?_
  match i, hi with
  | 0, _ => exact from_of ha.1 ha.2
  | 1, _ => exact from_of hb.1 hb.2
  | 2, _ => exact from_of hc.1 hc.2
  | 3, _ => exact from_of hd.1 hd.2
 unfold F58_0
 rw [hp, dqt h1, dqt h2]; rfl
theorem pt_of {x y : Int} (hx : -100000 <= x /\ x <= 100000) (hy : -100000 <= y /\ y <= 100000) : ptOk x y = true := by
 unfold ptOk F51
 refine allB_of fun i hi => ?_
 match i, hi with
 | 0, _ => exact from_of hx.1 hx.2
 | 1, _ => exact from_of hy.1 hy.2
section
variable {n0 : Nat} {f0 : Nat -> List V} {n2 : Nat} {f2 : Nat -> List V} {n4 : Nat} {f4 : Nat -> List V} {n6 : Nat} {f6 : Nat -> List V} {x8 : Int}
abbrev rN (f0 : FnV) (i : Int) : Nat := lenV (hdV (tlV (tlV (f0 i.toNat))))
abbrev rF (f0 : FnV) (i : Int) : Nat -> List V := fun j => views tp2 (atV (hdV (tlV (tlV (f0 i.toNat)))) j)
abbrev rW (f0 : FnV) (i : Int) : Int := jv3 (f0 i.toNat)
theorem meets_v {a b c d : Int} : F22_1 n0 f0 n2 f2 n4 f4 n6 f6 x8 a b c d = (bif ecol n0 f0 n2 f2 n4 f4 n6 f6 x8 n0 != 0 then ecol n0 f0 n2 f2 n4 f4 n6 f6 x8 n0 else bif !F58_0 a b c d then 7 else 0) /\
 (ecol n0 f0 n2 f2 n4 f4 n6 f6 x8 n0 = 0 -> F58_0 a b c d = true -> F22_0 n0 f0 n2 f2 n4 f4 n6 f6 x8 a b c d = F61 (rN f0 x8) (rF f0 x8) (rW f0 x8) a b c d /\ RoadIn (rN f0 x8) (rF f0 x8) (rW f0 x8)) /\ (ecol n0 f0 n2 f2 n4 f4 n6 f6 x8 n0 ≠ 0 -> F22_0 n0 f0 n2 f2 n4 f4 n6 f6 x8 a b c d = 0) := by
 have hc := chk2 (n0 := n0) (f0 := f0) (n2 := n2) (f2 := f2) (n4 := n4) (f4 := f4) (n6 := n6) (f6 := f6) (i := x8) (m := n0) (fun h => by have := (valid h).l0; omega)
 unfold F22_0 F22_1 ecol
 rw [hc, rough_eq]
 refine ⟨rfl, fun he hp => ?_, fun he => ?_⟩
 ·rw [he, hp]; exact ⟨rfl, ix_road he⟩
 ·rw [show (ix1 (F24_2 n0 (elV tyR f0) n2 (elV tyT f2) n4 (elV tyF f4) n6 (elV tyC f6)) x8 (n0 : Int) != 0) = true from by simpa using he]; rfl
theorem on_v {x y : Int} : F25_1 n0 f0 n2 f2 n4 f4 n6 f6 x8 x y = (bif ecol n0 f0 n2 f2 n4 f4 n6 f6 x8 n0 != 0 then ecol n0 f0 n2 f2 n4 f4 n6 f6 x8 n0 else bif !ptOk x y then 7 else 0) /\
 (ecol n0 f0 n2 f2 n4 f4 n6 f6 x8 n0 = 0 -> ptOk x y = true -> F25_0 n0 f0 n2 f2 n4 f4 n6 f6 x8 x y = F74 (rN f0 x8) (rF f0 x8) (rW f0 x8) x y /\ RoadIn (rN f0 x8) (rF f0 x8) (rW f0 x8)) := by
 have hc := chk2 (n0 := n0) (f0 := f0) (n2 := n2) (f2 := f2) (n4 := n4) (f4 := f4) (n6 := n6) (f6 := f6) (i := x8) (m := n0) (fun h => by have := (valid h).l0; omega)
 unfold F25_0 F25_1 ecol
 rw [hc, wild_placed]
 refine ⟨rfl, fun he hp => ?_⟩
 have hp' : F51 2 (elV tp1 (secF [vi x, vi y] 0 1)) = true := hp
 rw [he, hp']; exact ⟨rfl, ix_road he⟩
theorem meets_e {a b c d : Int} (h : F58_0 a b c d = true) : F22_1 n0 f0 n2 f2 n4 f4 n6 f6 x8 a b c d = ecol n0 f0 n2 f2 n4 f4 n6 f6 x8 n0 := by
 rw [meets_v.1, h]
 cases he : ecol n0 f0 n2 f2 n4 f4 n6 f6 x8 n0 != 0 with
 | true => rfl
 | false => have : ecol n0 f0 n2 f2 n4 f4 n6 f6 x8 n0 = 0 := by simpa using he
            rw [this]; rfl
theorem on_e {x y : Int} (h : ptOk x y = true) : F25_1 n0 f0 n2 f2 n4 f4 n6 f6 x8 x y = ecol n0 f0 n2 f2 n4 f4 n6 f6 x8 n0 := by
 rw [on_v.1, h]
 cases he : ecol n0 f0 n2 f2 n4 f4 n6 f6 x8 n0 != 0 with
 | true => rfl
 | false => have : ecol n0 f0 n2 f2 n4 f4 n6 f6 x8 n0 = 0 := by simpa using he
            rw [this]; rfl
theorem shade_e {a b c d : Int} (h : F58_0 a b c d = true) : F17_1 n0 f0 n2 f2 n4 f4 n6 f6 x8 a b c d = ecol n0 f0 n2 f2 n4 f4 n6 f6 x8 n6 := by
 rw [shade_v.1, h]
 cases he : ecol n0 f0 n2 f2 n4 f4 n6 f6 x8 n6 != 0 with
 | true => rfl
 | false => have : ecol n0 f0 n2 f2 n4 f4 n6 f6 x8 n6 = 0 := by simpa using he
            rw [this]; rfl
theorem shaded_e {x y : Int} (h : ptOk x y = true) : F15_1 n0 f0 n2 f2 n4 f4 n6 f6 x8 x y = ecol n0 f0 n2 f2 n4 f4 n6 f6 x8 n6 := by
 rw [shaded_v.1, h]
 cases he : ecol n0 f0 n2 f2 n4 f4 n6 f6 x8 n6 != 0 with
 | true => rfl
 | false => have : ecol n0 f0 n2 f2 n4 f4 n6 f6 x8 n6 = 0 := by simpa using he
            rw [this]; rfl
theorem shade_w {a b c d : Int} (he : ecol n0 f0 n2 f2 n4 f4 n6 f6 x8 n6 = 0) (hp : F58_0 a b c d = true) : (F17_0 n0 f0 n2 f2 n4 f4 n6 f6 x8 a b c d = 0 ↔ ∀ i, i < n2 -> ¬ toA8 f2 f6 x8 i a b c d) /\
 (F17_0 n0 f0 n2 f2 n4 f4 n6 f6 x8 a b c d = 2 ↔ ∃ i, i < n2 /\ (shA f2 f6 x8 i a b /\ shA f2 f6 x8 i c b /\ shA f2 f6 x8 i c d /\ shA f2 f6 x8 i a d)) /\ 0 <= F17_0 n0 f0 n2 f2 n4 f4 n6 f6 x8 a b c d /\ F17_0 n0 f0 n2 f2 n4 f4 n6 f6 x8 a b c d <= 2 := by
 obtain ⟨D, T, e, h⟩ := shade_v.2 he hp
 obtain ⟨p1, p2, p3, p4, p5, p6⟩ := patch_in hp
 rw [e]
 unfold shadeF
 have dt : ∀ i, i < n2 -> D i = true -> T i = true := fun i hi hd => by
  have := ((h i hi).1.1 hd).1
  exact (h i hi).2.2 ⟨this.1, Tou.of this.2 (by omega) (by omega) (by omega) (by omega)⟩
 cases hD : exB n2 D with
 | true =>
   obtain ⟨i, hi, hd⟩ := exB_iff.1 hD
   refine ⟨⟨fun h => by simp at h, fun hn => ?_⟩, ⟨fun _ => ⟨i, hi, (h i hi).1.1 hd⟩, fun _ => rfl⟩, by simp, by simp⟩
   exact absurd ((h i hi).2.1 (dt i hi hd)) (hn i hi)
 | false =>
   have nD : ¬ ∃ i, i < n2 /\ (shA f2 f6 x8 i a b /\ shA f2 f6 x8 i c b /\ shA f2 f6 x8 i c d /\ shA f2 f6 x8 i a d) := fun ⟨i, hi, hh⟩ => by
    rw [exB_true i hi ((h i hi).1.2 hh)] at hD; cases hD
   cases hT : exB n2 T with
   | true =>
     obtain ⟨i, hi, ht⟩ := exB_iff.1 hT
     exact ⟨⟨fun h => by simp at h, fun hn => absurd ((h i hi).2.1 ht) (hn i hi)⟩, ⟨fun h => by simp at h, fun h => absurd h nD⟩, by simp, by simp⟩
   | false =>
     refine ⟨⟨fun _ i hi hh => ?_, fun _ => rfl⟩, ⟨fun h => by simp at h, fun h => absurd h nD⟩, by simp, by simp⟩
     rw [exB_true i hi ((h i hi).2.2 hh)] at hT; cases hT
theorem shA_all {i : Nat} {a b c d x y : Int} (he : ecol n0 f0 n2 f2 n4 f4 n6 f6 x8 n6 = 0) (hi : i < n2) (h : shA f2 f6 x8 i a b /\ shA f2 f6 x8 i c b /\ shA f2 f6 x8 i c d /\ shA f2 f6 x8 i a d) (h1 : a <= x) (h2 : x <= c) (h3 : b <= y) (h4 : y <= d) : shA f2 f6 x8 i x y := by
 have t := (sc_in he).2 i hi
 obtain ⟨_, _, _, _, _, _, _, _, _, _, _, _, s3, _⟩ := t.vals
 unfold shA shP at h ⊢
 exact ⟨h.1.1, Sh.all (by omega) s3 h.1.2 h.2.1.2 h.2.2.1.2 h.2.2.2.2 (by omega) (by omega) (by omega) (by omega)⟩
theorem meets_pt {a b c d x y : Int} (he : ecol n0 f0 n2 f2 n4 f4 n6 f6 x8 n0 = 0) (hp : F58_0 a b c d = true) (h1 : a <= x) (h2 : x <= c) (h3 : b <= y) (h4 : y <= d) (hq : ptOk x y = true) (ho : F58_0 x y x y = true) :
 (F22_0 n0 f0 n2 f2 n4 f4 n6 f6 x8 a b c d = 2 -> F25_0 n0 f0 n2 f2 n4 f4 n6 f6 x8 x y = true) /\ (F22_0 n0 f0 n2 f2 n4 f4 n6 f6 x8 a b c d = 0 -> F25_0 n0 f0 n2 f2 n4 f4 n6 f6 x8 x y = false) /\
 (F22_0 n0 f0 n2 f2 n4 f4 n6 f6 x8 x y x y = 2 ↔ F25_0 n0 f0 n2 f2 n4 f4 n6 f6 x8 x y = true) /\ (F22_0 n0 f0 n2 f2 n4 f4 n6 f6 x8 x y x y = 0 ↔ F25_0 n0 f0 n2 f2 n4 f4 n6 f6 x8 x y = false) := by
 obtain ⟨p1, p2, p3, p4, p5, p6⟩ := patch_in hp
 obtain ⟨e1, hr⟩ := meets_v.2.1 he hp
 rw [e1, (meets_v.2.1 he ho).1, (on_v.2 he hq).1]
 have g1 : pl a := by unfold pl; omega
 have g2 : pl b := by unfold pl; omega
 have g3 : pl c := by unfold pl; omega
 have g4 : pl d := by unfold pl; omega
 have k := F61_pt hr (x := x) (y := y) (by unfold pl; omega) (by unfold pl; omega)
 refine ⟨fun h => ?_, fun h => ?_, k.1, k.2⟩
 ·exact k.1.1 (F61_sub hr g1 g2 g3 g4 h1 (Int.le_refl x) h2 h3 (Int.le_refl y) h4 h)
 ·exact k.2.1 (Classical.byContradiction fun hn => F61_up hr g1 g2 g3 g4 h1 (Int.le_refl x) h2 h3 (Int.le_refl y) h4 hn h)
theorem shade_pt {a b c d x y : Int} (he : ecol n0 f0 n2 f2 n4 f4 n6 f6 x8 n6 = 0) (hp : F58_0 a b c d = true) (h1 : a <= x) (h2 : x <= c) (h3 : b <= y) (h4 : y <= d) (hq : ptOk x y = true) (ho : F58_0 x y x y = true) :
 (F17_0 n0 f0 n2 f2 n4 f4 n6 f6 x8 a b c d = 0 -> F15_0 n0 f0 n2 f2 n4 f4 n6 f6 x8 x y = -1) /\ (F17_0 n0 f0 n2 f2 n4 f4 n6 f6 x8 a b c d = 2 -> 0 <= F15_0 n0 f0 n2 f2 n4 f4 n6 f6 x8 x y) /\
 (F15_0 n0 f0 n2 f2 n4 f4 n6 f6 x8 x y = -1 ↔ F17_0 n0 f0 n2 f2 n4 f4 n6 f6 x8 x y x y = 0) /\ F17_0 n0 f0 n2 f2 n4 f4 n6 f6 x8 x y x y ≠ 1 := by
 have w := shade_w he hp
 have w1 := shade_w he ho
 obtain ⟨p, e, hpp⟩ := shaded_v.2 he hq
 have key : F15_0 n0 f0 n2 f2 n4 f4 n6 f6 x8 x y = -1 ↔ ∀ i, i < n2 -> ¬ shA f2 f6 x8 i x y := by
  rw [e]
  rcases idx_ex (n := n2) (p := p) with ⟨k1, k2⟩ | ⟨j, k1, k2, k3, k4⟩
  ·rw [k1]
   exact ⟨fun _ i hi hs => by (have := k2 i hi; rw [(hpp i hi).2 hs] at this; cases this), fun _ => rfl⟩
  ·rw [k2]
   exact ⟨fun h => by omega, fun h => absurd ((hpp j k1).1 k3) (h j k1)⟩
 have nn : -1 <= F15_0 n0 f0 n2 f2 n4 f4 n6 f6 x8 x y := by
  rw [e]
  rcases idx_ex (n := n2) (p := p) with ⟨k1, k2⟩ | ⟨j, k1, k2, k3, k4⟩
  ·rw [k1]; omega
  ·rw [k2]; omega
 have tp : ∀ i, toA8 f2 f6 x8 i x y x y -> shA f2 f6 x8 i x y := fun i t => ⟨t.1, t.2.pt⟩
 have ts : ∀ i, shA f2 f6 x8 i x y -> toA8 f2 f6 x8 i x y x y := fun i t => ⟨t.1, Tou.of t.2 (by omega) (by omega) (by omega) (by omega)⟩
 refine ⟨fun h => ?_, fun h => ?_, ?_, fun h => ?_⟩
 ·rw [key]
  exact fun i hi hs => w.1.1 h i hi ⟨hs.1, Tou.of hs.2 (by omega) (by omega) (by omega) (by omega)⟩
 ·obtain ⟨i, hi, hh⟩ := w.2.1.1 h
  have : F15_0 n0 f0 n2 f2 n4 f4 n6 f6 x8 x y ≠ -1 := fun hn => key.1 hn i hi (shA_all he hi hh h1 h2 h3 h4)
  omega
 ·rw [key, w1.1]
  exact ⟨fun h i hi t => h i hi (tp i t), fun h i hi t => h i hi (ts i t)⟩
 ·apply absurd h
  by_cases hz : F17_0 n0 f0 n2 f2 n4 f4 n6 f6 x8 x y x y = 0
  ·omega
  ·have : ∃ i, i < n2 /\ toA8 f2 f6 x8 i x y x y := Classical.byContradiction fun hn => hz (w1.1.2 fun i hi t => hn ⟨i, hi, t⟩)
   obtain ⟨i, hi, t⟩ := this
   have := w1.2.1.2 ⟨i, hi, tp i t, tp i t, tp i t, tp i t⟩
   omega
end
end
noncomputable section
theorem hb1 {m n o e f g : Int} (hf : f = e) (hg : g = e) (h0 : m = 0 ↔ n = 0 /\ o = 0) (h2 : m = 2 -> n = 2 /\ o = 2) : (bif bif bif e != f then true else e != g then true else !(m == 0) == bif n == 0 then o == 0 else false then true else bif m == 2 then bif n != m then true else o != m else false) = false := by
 subst hf; subst hg
 rw [bne_self_eq_false, cond_false, cond_false]
 have e1 : ((m == 0) == bif n == 0 then o == 0 else false) = true := by
  by_cases hm : m = 0
  ·obtain ⟨k1, k2⟩ := h0.1 hm
   rw [hm, k1, k2]; rfl
  ·have : ¬ (n = 0 /\ o = 0) := fun h => hm (h0.2 h)
   rw [show (m == 0) = false from by simpa using hm]
   by_cases hn : n = 0
   ·have ho : o ≠ 0 := fun h => this ⟨hn, h⟩
    rw [hn, show (o == 0) = false from by simpa using ho]; rfl
   ·rw [show (n == 0) = false from by simpa using hn]; rfl
 rw [e1, Bool.not_true, cond_false]
 by_cases hm : m = 2
 ·obtain ⟨k1, k2⟩ := h2 hm
  rw [hm, k1, k2]; rfl
 ·rw [show (m == 2) = false from by simpa using hm]; rfl
theorem hb2 {m n o e f g : Int} (hf : f = e) (hg : g = e) (h0 : m = 0 ↔ n = 0 /\ o = 0) (h2 : m = 2 -> n = 2 /\ o = 2) : (bif bif bif e == f then e == g else false then (m == 0) == bif n == 0 then o == 0 else false else false then bif m != 2 then true else bif n == m then o == m else false else false) = true := by
 subst hf; subst hg
 rw [BEq.rfl, cond_true, cond_true]
 have e1 : ((m == 0) == bif n == 0 then o == 0 else false) = true := by
  by_cases hm : m = 0
  ·obtain ⟨k1, k2⟩ := h0.1 hm
   rw [hm, k1, k2]; rfl
  ·have : ¬ (n = 0 /\ o = 0) := fun h => hm (h0.2 h)
   rw [show (m == 0) = false from by simpa using hm]
   by_cases hn : n = 0
   ·have ho : o ≠ 0 := fun h => this ⟨hn, h⟩
    rw [hn, show (o == 0) = false from by simpa using ho]; rfl
   ·rw [show (n == 0) = false from by simpa using hn]; rfl
 rw [e1, cond_true]
 by_cases hm : m = 2
 ·obtain ⟨k1, k2⟩ := h2 hm
  rw [hm, k1, k2]; rfl
 ·rw [show (m != 2) = true from by simpa using hm]; rfl
theorem pb0 {e f g : Int} (hf : f = e) (hg : g = e) : (bif e != f then true else e != g) = false := by
 subst hf; subst hg; rw [bne_self_eq_false]; rfl
theorem pb1 {e m n : Int} {on : Bool} (h : e = 0 -> (m = 2 -> on = true) /\ (m = 0 -> on = false) /\ (n = 2 ↔ on = true) /\ (n = 0 ↔ on = false)) : (bif e == 0 then bif bif bif bif m == 2 then !on else false then true else bif m == 0 then on else false then true else !on == (n == 2) then true else on == (n == 0) else false) = false := by
 by_cases he : e = 0
 ·obtain ⟨h1, h2, h3, h4⟩ := h he
  rw [he, BEq.rfl, cond_true]
  cases on with
  | true =>
    have n2 := h3.2 rfl
    have m0 : m ≠ 0 := fun h => by cases h2 h
    rw [n2, show (m == 0) = false from by simpa using m0]
    cases m == 2 <;> rfl
  | false =>
    have n0 := h4.2 rfl
    have m2 : m ≠ 2 := fun h => by cases h1 h
    rw [n0, show (m == 2) = false from by simpa using m2]
    cases m == 0 <;> rfl
 ·rw [show (e == 0) = false from by simpa using he]; rfl
theorem pb2 {d t l : Int} (h1 : d = 0 -> t = -1) (h2 : d = 2 -> 0 <= t) (h3 : t = -1 ↔ l = 0) (h4 : l ≠ 1) : (bif bif bif bif d != 0 then true else t == -1 then bif d != 2 then true else decide (0 <= t) else false then (t == -1) == (l == 0) else false then l != 1 else false) = true := by
 have e1 : (bif d != 0 then true else t == -1) = true := by
  by_cases hd : d = 0
  ·rw [h1 hd]; simp
  ·rw [show (d != 0) = true from by simpa using hd]; rfl
 have e2 : (bif d != 2 then true else decide (0 <= t)) = true := by
  by_cases hd : d = 2
  ·rw [dqt (h2 hd)]; simp
  ·rw [show (d != 2) = true from by simpa using hd]; rfl
 have e3 : ((t == -1) == (l == 0)) = true := by
  by_cases ht : t = -1
  ·rw [ht, h3.1 ht]; rfl
  ·rw [show (t == -1) = false from by simpa using ht, show (l == 0) = false from by simpa using fun h => ht (h3.2 h)]; rfl
 rw [e1, e2, e3]
 simpa using h4
theorem pd_in {a b c d : Int} (h : (bif bif bif bif bif decide (a < -100000) then true else decide (b < -100000) then true else decide (100000 < c) then true else decide (100000 < d) then true else decide (c < a) then true else decide (d < b)) = false) : F58_0 a b c d = true := by
 have o6 : ∀ p q u v w x : Bool, (bif bif bif bif bif p then true else q then true else u then true else v then true else w then true else x) = false -> p = false /\ q = false /\ u = false /\ v = false /\ w = false /\ x = false := by decide
 obtain ⟨h1, h2, h3, h4, h5, h6⟩ := o6 _ _ _ _ _ _ h
 have h1 := of_decide_eq_false h1
 have h2 := of_decide_eq_false h2
 have h3 := of_decide_eq_false h3
 have h4 := of_decide_eq_false h4
 have h5 := of_decide_eq_false h5
 have h6 := of_decide_eq_false h6
 exact patch_of (by omega) (by omega) (by omega) (by omega) (by omega) (by omega)
theorem px_in {a c x : Int} (ha : -100000 <= a) (hc : c <= 100000) (h : a <= c) (h0 : 0 <= x) (h1 : x <= 255) : a <= i64.wrap (a + i64.wrap ((i64.wrap (i64.wrap (c - a) * i64.wrap x)).tdiv 255)) /\ i64.wrap (a + i64.wrap ((i64.wrap (i64.wrap (c - a) * i64.wrap x)).tdiv 255)) <= c := by
 have k0 : 0 <= (c - a) * x := imn (by omega) h0
 have k1 : (c - a) * x <= (c - a) * 255 := iml h1 (by omega)
 rw [wrapI (x := c - a) (by omega) (by omega), wrapI (x := x) (by omega) (by omega), wrapI (x := (c - a) * x) (by omega) (by omega), Int.tdiv_eq_ediv_of_nonneg k0]
 generalize (c - a) * x = y at *
 rw [wrapI (x := y / 255) (by omega) (by omega), wrapI (x := a + y / 255) (by omega) (by omega)]
 omega
end
end Go.Dx
namespace Go.Dx
open Go.IntKind (i64 u64 u8)
open Go.Sx Go.Proofs
noncomputable section
def ctB34 : CTab := [(19, .con C19), (17, .con C17), (57, .con C57), (131, .con CB131), (19, .con C19), (22, .con C22), (25, .con C25), (15, .con C15), (55, .con C55), (61, .con C61), (74, .con C74), (108, .con C108), (46, .con C46), (111, .con C111), (56, .con C56), (47, .con C47), (145, .con C145), (140, .con C140), (49, .con C49), (123, .con C123), (44, .con C44), (23, .con C23), (62, .con C62), (68, .con C68), (63, .con C63), (69, .con C69), (117, .inl s117 u0), (116, .inl s116 u0), (115, .con C115), (114, .con C114), (147, .con C147), (64, .con C64), (66, .con C66), (113, .con C113), (65, .con C65), (67, .con C67), (53, .con C53), (45, .con C45), (90, .con C90), (119, .con C119), (121, .con C121), (99, .con C99), (129, .con C129), (148, .con C148), (149, .con C149), (112, .con C112), (118, .con C118), (120, .con C120), (133, .con C133), (103, .con C103), (100, .con C100), (134, .con C134), (135, .con C135), (78, .con C78), (54, .con C54), (48, .con C48), (102, .con C102), (84, .con C84), (85, .con C85), (127, .con C127), (101, .con C101), (86, .con C86), (162, .con C162), (146, .con C146), (83, .inl s83 u0), (20, .inl s20 u0)]
theorem tabB34 : TabOk Tryz.prog eqs its ctB34 := .con ok19 (.con ok17 (.con ok57 (.con okB131 (.con ok19 (.con ok22 (.con ok25 (.con ok15 (.con ok55 (.con ok61 (.con ok74 (.con ok108 (.con ok46 (.con ok111 (.con ok56 (.con ok47 (.con ok145 (.con ok140 (.con ok49 (.con ok123 (.con ok44 (.con ok23 (.con ok62 (.con ok68 (.con ok63 (.con ok69 (.inl Tryz.func117 (by kernel_rfl) (by kernel_rfl) (by kernel_rfl) (.inl Tryz.func116 (by kernel_rfl) (by kernel_rfl) (by kernel_rfl) (.con ok115 (.con ok114 (.con ok147 (.con ok64 (.con ok66 (.con ok113 (.con ok65 (.con ok67 (.con ok53 (.con ok45 (.con ok90 (.con ok119 (.con ok121 (.con ok99 (.con ok129 (.con ok148 (.con ok149 (.con ok112 (.con ok118 (.con ok120 (.con ok133 (.con ok103 (.con ok100 (.con ok134 (.con ok135 (.con ok78 (.con ok54 (.con ok48 (.con ok102 (.con ok84 (.con ok85 (.con ok127 (.con ok101 (.con ok86 (.con ok162 (.con ok146 (.inl Tryz.func83 (by kernel_rfl) (by kernel_rfl) (by kernel_rfl) (.inl Tryz.func20 (by kernel_rfl) (by kernel_rfl) (by kernel_rfl) (.nil))))))))))))))))))))))))))))))))))))))))))))))))))))))))))))))))))
attribute [local irreducible] F22_0 F22_1 F25_0 F25_1 F17_0 F17_1 F15_0 F15_1 F21_0 F21_1 F21_2 F21_3
def m6 (n0 : Nat) (f0 : FnV) (n2 : Nat) (f2 : FnV) (n4 : Nat) (f4 : FnV) (n6 : Nat) (f6 : FnV) (x8 x9 x10 x11 x12 x13 x14 : Int) : RT Empty := .obi (.obi (.obi (.obi (.obi (.obi (.obi (.obi (.obi (.obi (.obi (.obi (.obi (.obi (.obi (.obi (.obi (.obi (.obi (.br (bif bif bif bif bif decide (x9 < -100000) then true else decide (x10 < -100000) then true else decide (100000 < x11) then true else decide (100000 < x12) then true else decide (x11 < x9) then true else decide (x12 < x10)) (.obc (.obt (.ret (V.bool true)))) (.obt (.obt (.obp ((∀ (i : Nat), i < n0 -> (sv (hdV (f0 i))).size <= (9223372036854775807 : Nat)) /\ ∀ (i : Nat), i < n6 -> (sv (hdV (f6 i))).size <= (9223372036854775807 : Nat)) (.obt (.obp ((∀ (i : Nat), i < n0 -> (sv (hdV (f0 i))).size <= (9223372036854775807 : Nat)) /\ ∀ (i : Nat), i < n6 -> (sv (hdV (f6 i))).size <= (9223372036854775807 : Nat)) (.obt (.obp ((∀ (i : Nat), i < n0 -> (sv (hdV (f0 i))).size <= (9223372036854775807 : Nat)) /\ ∀ (i : Nat), i < n6 -> (sv (hdV (f6 i))).size <= (9223372036854775807 : Nat)) (.obt (.obi (.obi (.obi (.br (bif F22_1 n0 (elV tyR f0) n2 (elV tyT f2) n4 (elV tyF f4) n6 (elV tyC f6) x8 x9 x10 x11 x12 != F25_1 n0 (elV tyR f0) n2 (elV tyT f2) n4 (elV tyF f4) n6 (elV tyC f6) x8 (i64.wrap (x9 + i64.wrap ((i64.wrap (i64.wrap (x11 - x9) * i64.wrap x13)).tdiv 255))) (i64.wrap (x10 + i64.wrap ((i64.wrap (i64.wrap (x12 - x10) * i64.wrap x14)).tdiv 255))) then true else F22_1 n0 (elV tyR f0) n2 (elV tyT f2) n4 (elV tyF f4) n6 (elV tyC f6) x8 x9 x10 x11 x12 != F22_1 n0 (elV tyR f0) n2 (elV tyT f2) n4 (elV tyF f4) n6 (elV tyC f6) x8 (i64.wrap (x9 + i64.wrap ((i64.wrap (i64.wrap (x11 - x9) * i64.wrap x13)).tdiv 255))) (i64.wrap (x10 + i64.wrap ((i64.wrap (i64.wrap (x12 - x10) * i64.wrap x14)).tdiv 255))) (i64.wrap (x9 + i64.wrap ((i64.wrap (i64.wrap (x11 - x9) * i64.wrap x13)).tdiv 255))) (i64.wrap (x10 + i64.wrap ((i64.wrap (i64.wrap (x12 - x10) * i64.wrap x14)).tdiv 255)))) (.ret (V.kb false)) (.obi (.obi (.obi (.obi (.obi (.obi (.obi (.obi (.obi (.obi (.obi (.obi (.obi (.obi (.obi (.obi (.obi (.obi (.obi (.obi (.obi (.obi (.obi (.obi (.obi (.br (bif F22_1 n0 (elV tyR f0) n2 (elV tyT f2) n4 (elV tyF f4) n6 (elV tyC f6) x8 x9 x10 x11 x12 == 0 then bif bif bif bif F22_0 n0 (elV tyR f0) n2 (elV tyT f2) n4 (elV tyF f4) n6 (elV tyC f6) x8 x9 x10 x11 x12 == 2 then !F25_0 n0 (elV tyR f0) n2 (elV tyT f2) n4 (elV tyF f4) n6 (elV tyC f6) x8 (i64.wrap (x9 + i64.wrap ((i64.wrap (i64.wrap (x11 - x9) * i64.wrap x13)).tdiv 255))) (i64.wrap (x10 + i64.wrap ((i64.wrap (i64.wrap (x12 - x10) * i64.wrap x14)).tdiv 255))) else false then true else bif F22_0 n0 (elV tyR f0) n2 (elV tyT f2) n4 (elV tyF f4) n6 (elV tyC f6) x8 x9 x10 x11 x12 == 0 then F25_0 n0 (elV tyR f0) n2 (elV tyT f2) n4 (elV tyF f4) n6 (elV tyC f6) x8 (i64.wrap (x9 + i64.wrap ((i64.wrap (i64.wrap (x11 - x9) * i64.wrap x13)).tdiv 255))) (i64.wrap (x10 + i64.wrap ((i64.wrap (i64.wrap (x12 - x10) * i64.wrap x14)).tdiv 255))) else false then true else !F25_0 n0 (elV tyR f0) n2 (elV tyT f2) n4 (elV tyF f4) n6 (elV tyC f6) x8 (i64.wrap (x9 + i64.wrap ((i64.wrap (i64.wrap (x11 - x9) * i64.wrap x13)).tdiv 255))) (i64.wrap (x10 + i64.wrap ((i64.wrap (i64.wrap (x12 - x10) * i64.wrap x14)).tdiv 255))) == (F22_0 n0 (elV tyR f0) n2 (elV tyT f2) n4 (elV tyF f4) n6 (elV tyC f6) x8 (i64.wrap (x9 + i64.wrap ((i64.wrap (i64.wrap (x11 - x9) * i64.wrap x13)).tdiv 255))) (i64.wrap (x10 + i64.wrap ((i64.wrap (i64.wrap (x12 - x10) * i64.wrap x14)).tdiv 255))) (i64.wrap (x9 + i64.wrap ((i64.wrap (i64.wrap (x11 - x9) * i64.wrap x13)).tdiv 255))) (i64.wrap (x10 + i64.wrap ((i64.wrap (i64.wrap (x12 - x10) * i64.wrap x14)).tdiv 255))) == 2) then true else F25_0 n0 (elV tyR f0) n2 (elV tyT f2) n4 (elV tyF f4) n6 (elV tyC f6) x8 (i64.wrap (x9 + i64.wrap ((i64.wrap (i64.wrap (x11 - x9) * i64.wrap x13)).tdiv 255))) (i64.wrap (x10 + i64.wrap ((i64.wrap (i64.wrap (x12 - x10) * i64.wrap x14)).tdiv 255))) == (F22_0 n0 (elV tyR f0) n2 (elV tyT f2) n4 (elV tyF f4) n6 (elV tyC f6) x8 (i64.wrap (x9 + i64.wrap ((i64.wrap (i64.wrap (x11 - x9) * i64.wrap x13)).tdiv 255))) (i64.wrap (x10 + i64.wrap ((i64.wrap (i64.wrap (x12 - x10) * i64.wrap x14)).tdiv 255))) (i64.wrap (x9 + i64.wrap ((i64.wrap (i64.wrap (x11 - x9) * i64.wrap x13)).tdiv 255))) (i64.wrap (x10 + i64.wrap ((i64.wrap (i64.wrap (x12 - x10) * i64.wrap x14)).tdiv 255))) == 0) else false) (.ret (V.kb false)) (.obp ((∀ (i : Nat), i < n0 -> (sv (hdV (f0 i))).size <= (9223372036854775807 : Nat)) /\ ∀ (i : Nat), i < n6 -> (sv (hdV (f6 i))).size <= (9223372036854775807 : Nat)) (.obt (.obp ((∀ (i : Nat), i < n0 -> (sv (hdV (f0 i))).size <= (9223372036854775807 : Nat)) /\ ∀ (i : Nat), i < n6 -> (sv (hdV (f6 i))).size <= (9223372036854775807 : Nat)) (.obt (.obp ((∀ (i : Nat), i < n0 -> (sv (hdV (f0 i))).size <= (9223372036854775807 : Nat)) /\ ∀ (i : Nat), i < n6 -> (sv (hdV (f6 i))).size <= (9223372036854775807 : Nat)) (.obt (.obi (.obi (.obi (.br (bif F17_1 n0 (elV tyR f0) n2 (elV tyT f2) n4 (elV tyF f4) n6 (elV tyC f6) x8 x9 x10 x11 x12 != F15_1 n0 (elV tyR f0) n2 (elV tyT f2) n4 (elV tyF f4) n6 (elV tyC f6) x8 (i64.wrap (x9 + i64.wrap ((i64.wrap (i64.wrap (x11 - x9) * i64.wrap x13)).tdiv 255))) (i64.wrap (x10 + i64.wrap ((i64.wrap (i64.wrap (x12 - x10) * i64.wrap x14)).tdiv 255))) then true else F17_1 n0 (elV tyR f0) n2 (elV tyT f2) n4 (elV tyF f4) n6 (elV tyC f6) x8 x9 x10 x11 x12 != F17_1 n0 (elV tyR f0) n2 (elV tyT f2) n4 (elV tyF f4) n6 (elV tyC f6) x8 (i64.wrap (x9 + i64.wrap ((i64.wrap (i64.wrap (x11 - x9) * i64.wrap x13)).tdiv 255))) (i64.wrap (x10 + i64.wrap ((i64.wrap (i64.wrap (x12 - x10) * i64.wrap x14)).tdiv 255))) (i64.wrap (x9 + i64.wrap ((i64.wrap (i64.wrap (x11 - x9) * i64.wrap x13)).tdiv 255))) (i64.wrap (x10 + i64.wrap ((i64.wrap (i64.wrap (x12 - x10) * i64.wrap x14)).tdiv 255)))) (.ret (V.kb false)) (.br (F17_1 n0 (elV tyR f0) n2 (elV tyT f2) n4 (elV tyF f4) n6 (elV tyC f6) x8 x9 x10 x11 x12 != 0) (.obc (.obt (.ret (V.bool true)))) (.obi (.obi (.obi (.obi (.obi (.obi (.obi (.obi (.obi (.obi (.obi (.obi (.obi (.obi (.obi (.br (bif bif bif bif F17_0 n0 (elV tyR f0) n2 (elV tyT f2) n4 (elV tyF f4) n6 (elV tyC f6) x8 x9 x10 x11 x12 != 0 then true else F15_0 n0 (elV tyR f0) n2 (elV tyT f2) n4 (elV tyF f4) n6 (elV tyC f6) x8 (i64.wrap (x9 + i64.wrap ((i64.wrap (i64.wrap (x11 - x9) * i64.wrap x13)).tdiv 255))) (i64.wrap (x10 + i64.wrap ((i64.wrap (i64.wrap (x12 - x10) * i64.wrap x14)).tdiv 255))) == -1 then bif F17_0 n0 (elV tyR f0) n2 (elV tyT f2) n4 (elV tyF f4) n6 (elV tyC f6) x8 x9 x10 x11 x12 != 2 then true else decide (0 <= F15_0 n0 (elV tyR f0) n2 (elV tyT f2) n4 (elV tyF f4) n6 (elV tyC f6) x8 (i64.wrap (x9 + i64.wrap ((i64.wrap (i64.wrap (x11 - x9) * i64.wrap x13)).tdiv 255))) (i64.wrap (x10 + i64.wrap ((i64.wrap (i64.wrap (x12 - x10) * i64.wrap x14)).tdiv 255)))) else false then (F15_0 n0 (elV tyR f0) n2 (elV tyT f2) n4 (elV tyF f4) n6 (elV tyC f6) x8 (i64.wrap (x9 + i64.wrap ((i64.wrap (i64.wrap (x11 - x9) * i64.wrap x13)).tdiv 255))) (i64.wrap (x10 + i64.wrap ((i64.wrap (i64.wrap (x12 - x10) * i64.wrap x14)).tdiv 255))) == -1) == (F17_0 n0 (elV tyR f0) n2 (elV tyT f2) n4 (elV tyF f4) n6 (elV tyC f6) x8 (i64.wrap (x9 + i64.wrap ((i64.wrap (i64.wrap (x11 - x9) * i64.wrap x13)).tdiv 255))) (i64.wrap (x10 + i64.wrap ((i64.wrap (i64.wrap (x12 - x10) * i64.wrap x14)).tdiv 255))) (i64.wrap (x9 + i64.wrap ((i64.wrap (i64.wrap (x11 - x9) * i64.wrap x13)).tdiv 255))) (i64.wrap (x10 + i64.wrap ((i64.wrap (i64.wrap (x12 - x10) * i64.wrap x14)).tdiv 255))) == 0) else false then F17_0 n0 (elV tyR f0) n2 (elV tyT f2) n4 (elV tyF f4) n6 (elV tyC f6) x8 (i64.wrap (x9 + i64.wrap ((i64.wrap (i64.wrap (x11 - x9) * i64.wrap x13)).tdiv 255))) (i64.wrap (x10 + i64.wrap ((i64.wrap (i64.wrap (x12 - x10) * i64.wrap x14)).tdiv 255))) (i64.wrap (x9 + i64.wrap ((i64.wrap (i64.wrap (x11 - x9) * i64.wrap x13)).tdiv 255))) (i64.wrap (x10 + i64.wrap ((i64.wrap (i64.wrap (x12 - x10) * i64.wrap x14)).tdiv 255))) != 1 else false) (.obc (.obt (.ret (V.bool true)))) (.ret (V.kb false))))))))))))))))))))))))))))))))))))))))))))))))))))))))))))))))))))))))))))))))))))))
theorem run6 (n0 : Nat) (f0 : FnV) (n2 : Nat) (f2 : FnV) (n4 : Nat) (f4 : FnV) (n6 : Nat) (f6 : FnV) (x8 x9 x10 x11 x12 x13 x14 : Int) : Fit noD (runL JJ ctB34 u0 s6 [scV n0 f0 n2 f2 n4 f4 n6 f6, V.agg [vi x8, vi x9, vi x10, vi x11, vi x12, V.int u8 x13, V.int u8 x14]]) (m6 n0 f0 n2 f2 n4 f4 n6 f6 x8 x9 x10 x11 x12 x13 x14) := ⟨by kernel_rfl, by kernel_rfl⟩
def F6_0 (n0 : Nat) (f0 : FnV) (n2 : Nat) (f2 : FnV) (n4 : Nat) (f4 : FnV) (n6 : Nat) (f6 : FnV) (x8 x9 x10 x11 x12 x13 x14 : Int) : Bool := bif bif bif bif bif bif decide (x9 < -100000) then true else decide (x10 < -100000) then true else decide (100000 < x11) then true else decide (100000 < x12) then true else decide (x11 < x9) then true else decide (x12 < x10) then true else bif bif F22_1 n0 (elV tyR f0) n2 (elV tyT f2) n4 (elV tyF f4) n6 (elV tyC f6) x8 x9 x10 x11 x12 != F25_1 n0 (elV tyR f0) n2 (elV tyT f2) n4 (elV tyF f4) n6 (elV tyC f6) x8 (i64.wrap (x9 + i64.wrap ((i64.wrap (i64.wrap (x11 - x9) * i64.wrap x13)).tdiv 255))) (i64.wrap (x10 + i64.wrap ((i64.wrap (i64.wrap (x12 - x10) * i64.wrap x14)).tdiv 255))) then true else F22_1 n0 (elV tyR f0) n2 (elV tyT f2) n4 (elV tyF f4) n6 (elV tyC f6) x8 x9 x10 x11 x12 != F22_1 n0 (elV tyR f0) n2 (elV tyT f2) n4 (elV tyF f4) n6 (elV tyC f6) x8 (i64.wrap (x9 + i64.wrap ((i64.wrap (i64.wrap (x11 - x9) * i64.wrap x13)).tdiv 255))) (i64.wrap (x10 + i64.wrap ((i64.wrap (i64.wrap (x12 - x10) * i64.wrap x14)).tdiv 255))) (i64.wrap (x9 + i64.wrap ((i64.wrap (i64.wrap (x11 - x9) * i64.wrap x13)).tdiv 255))) (i64.wrap (x10 + i64.wrap ((i64.wrap (i64.wrap (x12 - x10) * i64.wrap x14)).tdiv 255))) then false else bif bif F22_1 n0 (elV tyR f0) n2 (elV tyT f2) n4 (elV tyF f4) n6 (elV tyC f6) x8 x9 x10 x11 x12 == 0 then bif bif bif bif F22_0 n0 (elV tyR f0) n2 (elV tyT f2) n4 (elV tyF f4) n6 (elV tyC f6) x8 x9 x10 x11 x12 == 2 then !F25_0 n0 (elV tyR f0) n2 (elV tyT f2) n4 (elV tyF f4) n6 (elV tyC f6) x8 (i64.wrap (x9 + i64.wrap ((i64.wrap (i64.wrap (x11 - x9) * i64.wrap x13)).tdiv 255))) (i64.wrap (x10 + i64.wrap ((i64.wrap (i64.wrap (x12 - x10) * i64.wrap x14)).tdiv 255))) else false then true else bif F22_0 n0 (elV tyR f0) n2 (elV tyT f2) n4 (elV tyF f4) n6 (elV tyC f6) x8 x9 x10 x11 x12 == 0 then F25_0 n0 (elV tyR f0) n2 (elV tyT f2) n4 (elV tyF f4) n6 (elV tyC f6) x8 (i64.wrap (x9 + i64.wrap ((i64.wrap (i64.wrap (x11 - x9) * i64.wrap x13)).tdiv 255))) (i64.wrap (x10 + i64.wrap ((i64.wrap (i64.wrap (x12 - x10) * i64.wrap x14)).tdiv 255))) else false then true else !F25_0 n0 (elV tyR f0) n2 (elV tyT f2) n4 (elV tyF f4) n6 (elV tyC f6) x8 (i64.wrap (x9 + i64.wrap ((i64.wrap (i64.wrap (x11 - x9) * i64.wrap x13)).tdiv 255))) (i64.wrap (x10 + i64.wrap ((i64.wrap (i64.wrap (x12 - x10) * i64.wrap x14)).tdiv 255))) == (F22_0 n0 (elV tyR f0) n2 (elV tyT f2) n4 (elV tyF f4) n6 (elV tyC f6) x8 (i64.wrap (x9 + i64.wrap ((i64.wrap (i64.wrap (x11 - x9) * i64.wrap x13)).tdiv 255))) (i64.wrap (x10 + i64.wrap ((i64.wrap (i64.wrap (x12 - x10) * i64.wrap x14)).tdiv 255))) (i64.wrap (x9 + i64.wrap ((i64.wrap (i64.wrap (x11 - x9) * i64.wrap x13)).tdiv 255))) (i64.wrap (x10 + i64.wrap ((i64.wrap (i64.wrap (x12 - x10) * i64.wrap x14)).tdiv 255))) == 2) then true else F25_0 n0 (elV tyR f0) n2 (elV tyT f2) n4 (elV tyF f4) n6 (elV tyC f6) x8 (i64.wrap (x9 + i64.wrap ((i64.wrap (i64.wrap (x11 - x9) * i64.wrap x13)).tdiv 255))) (i64.wrap (x10 + i64.wrap ((i64.wrap (i64.wrap (x12 - x10) * i64.wrap x14)).tdiv 255))) == (F22_0 n0 (elV tyR f0) n2 (elV tyT f2) n4 (elV tyF f4) n6 (elV tyC f6) x8 (i64.wrap (x9 + i64.wrap ((i64.wrap (i64.wrap (x11 - x9) * i64.wrap x13)).tdiv 255))) (i64.wrap (x10 + i64.wrap ((i64.wrap (i64.wrap (x12 - x10) * i64.wrap x14)).tdiv 255))) (i64.wrap (x9 + i64.wrap ((i64.wrap (i64.wrap (x11 - x9) * i64.wrap x13)).tdiv 255))) (i64.wrap (x10 + i64.wrap ((i64.wrap (i64.wrap (x12 - x10) * i64.wrap x14)).tdiv 255))) == 0) else false then false else bif bif F17_1 n0 (elV tyR f0) n2 (elV tyT f2) n4 (elV tyF f4) n6 (elV tyC f6) x8 x9 x10 x11 x12 != F15_1 n0 (elV tyR f0) n2 (elV tyT f2) n4 (elV tyF f4) n6 (elV tyC f6) x8 (i64.wrap (x9 + i64.wrap ((i64.wrap (i64.wrap (x11 - x9) * i64.wrap x13)).tdiv 255))) (i64.wrap (x10 + i64.wrap ((i64.wrap (i64.wrap (x12 - x10) * i64.wrap x14)).tdiv 255))) then true else F17_1 n0 (elV tyR f0) n2 (elV tyT f2) n4 (elV tyF f4) n6 (elV tyC f6) x8 x9 x10 x11 x12 != F17_1 n0 (elV tyR f0) n2 (elV tyT f2) n4 (elV tyF f4) n6 (elV tyC f6) x8 (i64.wrap (x9 + i64.wrap ((i64.wrap (i64.wrap (x11 - x9) * i64.wrap x13)).tdiv 255))) (i64.wrap (x10 + i64.wrap ((i64.wrap (i64.wrap (x12 - x10) * i64.wrap x14)).tdiv 255))) (i64.wrap (x9 + i64.wrap ((i64.wrap (i64.wrap (x11 - x9) * i64.wrap x13)).tdiv 255))) (i64.wrap (x10 + i64.wrap ((i64.wrap (i64.wrap (x12 - x10) * i64.wrap x14)).tdiv 255))) then false else bif F17_1 n0 (elV tyR f0) n2 (elV tyT f2) n4 (elV tyF f4) n6 (elV tyC f6) x8 x9 x10 x11 x12 != 0 then true else bif bif bif bif bif F17_0 n0 (elV tyR f0) n2 (elV tyT f2) n4 (elV tyF f4) n6 (elV tyC f6) x8 x9 x10 x11 x12 != 0 then true else F15_0 n0 (elV tyR f0) n2 (elV tyT f2) n4 (elV tyF f4) n6 (elV tyC f6) x8 (i64.wrap (x9 + i64.wrap ((i64.wrap (i64.wrap (x11 - x9) * i64.wrap x13)).tdiv 255))) (i64.wrap (x10 + i64.wrap ((i64.wrap (i64.wrap (x12 - x10) * i64.wrap x14)).tdiv 255))) == -1 then bif F17_0 n0 (elV tyR f0) n2 (elV tyT f2) n4 (elV tyF f4) n6 (elV tyC f6) x8 x9 x10 x11 x12 != 2 then true else decide (0 <= F15_0 n0 (elV tyR f0) n2 (elV tyT f2) n4 (elV tyF f4) n6 (elV tyC f6) x8 (i64.wrap (x9 + i64.wrap ((i64.wrap (i64.wrap (x11 - x9) * i64.wrap x13)).tdiv 255))) (i64.wrap (x10 + i64.wrap ((i64.wrap (i64.wrap (x12 - x10) * i64.wrap x14)).tdiv 255)))) else false then (F15_0 n0 (elV tyR f0) n2 (elV tyT f2) n4 (elV tyF f4) n6 (elV tyC f6) x8 (i64.wrap (x9 + i64.wrap ((i64.wrap (i64.wrap (x11 - x9) * i64.wrap x13)).tdiv 255))) (i64.wrap (x10 + i64.wrap ((i64.wrap (i64.wrap (x12 - x10) * i64.wrap x14)).tdiv 255))) == -1) == (F17_0 n0 (elV tyR f0) n2 (elV tyT f2) n4 (elV tyF f4) n6 (elV tyC f6) x8 (i64.wrap (x9 + i64.wrap ((i64.wrap (i64.wrap (x11 - x9) * i64.wrap x13)).tdiv 255))) (i64.wrap (x10 + i64.wrap ((i64.wrap (i64.wrap (x12 - x10) * i64.wrap x14)).tdiv 255))) (i64.wrap (x9 + i64.wrap ((i64.wrap (i64.wrap (x11 - x9) * i64.wrap x13)).tdiv 255))) (i64.wrap (x10 + i64.wrap ((i64.wrap (i64.wrap (x12 - x10) * i64.wrap x14)).tdiv 255))) == 0) else false then F17_0 n0 (elV tyR f0) n2 (elV tyT f2) n4 (elV tyF f4) n6 (elV tyC f6) x8 (i64.wrap (x9 + i64.wrap ((i64.wrap (i64.wrap (x11 - x9) * i64.wrap x13)).tdiv 255))) (i64.wrap (x10 + i64.wrap ((i64.wrap (i64.wrap (x12 - x10) * i64.wrap x14)).tdiv 255))) (i64.wrap (x9 + i64.wrap ((i64.wrap (i64.wrap (x11 - x9) * i64.wrap x13)).tdiv 255))) (i64.wrap (x10 + i64.wrap ((i64.wrap (i64.wrap (x12 - x10) * i64.wrap x14)).tdiv 255))) != 1 else false then true else false
theorem evl6 (n0 : Nat) (f0 : FnV) (n2 : Nat) (f2 : FnV) (n4 : Nat) (f4 : FnV) (n6 : Nat) (f6 : FnV) (x8 x9 x10 x11 x12 x13 x14 : Int) (hp : SzOk n0 f0 /\ SzOk n6 f6 /\ (0 <= x13 /\ x13 <= 255) /\ 0 <= x14 /\ x14 <= 255) : evR noE (m6 n0 f0 n2 f2 n4 f4 n6 f6 x8 x9 x10 x11 x12 x13 x14) (.bool true) := by
 have hs : SzOk n0 f0 /\ SzOk n6 f6 := ⟨hp.1, hp.2.1⟩
 (repeat' (first | refine evObi ?_ | refine evObc ?_ | refine evObt ?_ | refine evObp hs ?_))
 refine evBr (fun h => ?_) (fun h => ?_)
 ·(repeat' (first | refine evObi ?_ | refine evObc ?_ | refine evObt ?_ | refine evObp hs ?_))
  exact evRet rfl
 have hF := pd_in h
 obtain ⟨p1, p2, p3, p4, p5, p6⟩ := patch_in hF
 obtain ⟨a1, a2⟩ := px_in p1.1 p3.2 p5 hp.2.2.1.1 hp.2.2.1.2
 obtain ⟨b1, b2⟩ := px_in p2.1 p4.2 p6 hp.2.2.2.1 hp.2.2.2.2
 have hx := And.intro (Int.le_trans p1.1 a1) (Int.le_trans a2 p3.2)
 have hy := And.intro (Int.le_trans p2.1 b1) (Int.le_trans b2 p4.2)
 have hq := pt_of hx hy
 have ho := patch_of hx hy hx hy (Int.le_refl _) (Int.le_refl _)
 have e0 := meets_e (n0 := n0) (f0 := elV tyR f0) (n2 := n2) (f2 := elV tyT f2) (n4 := n4) (f4 := elV tyF f4) (n6 := n6) (f6 := elV tyC f6) (x8 := x8) hF
 have e1 := meets_e (n0 := n0) (f0 := elV tyR f0) (n2 := n2) (f2 := elV tyT f2) (n4 := n4) (f4 := elV tyF f4) (n6 := n6) (f6 := elV tyC f6) (x8 := x8) ho
 have e2 := on_e (n0 := n0) (f0 := elV tyR f0) (n2 := n2) (f2 := elV tyT f2) (n4 := n4) (f4 := elV tyF f4) (n6 := n6) (f6 := elV tyC f6) (x8 := x8) hq
 have s0 := shade_e (n0 := n0) (f0 := elV tyR f0) (n2 := n2) (f2 := elV tyT f2) (n4 := n4) (f4 := elV tyF f4) (n6 := n6) (f6 := elV tyC f6) (x8 := x8) hF
 have s1 := shade_e (n0 := n0) (f0 := elV tyR f0) (n2 := n2) (f2 := elV tyT f2) (n4 := n4) (f4 := elV tyF f4) (n6 := n6) (f6 := elV tyC f6) (x8 := x8) ho
 have s2 := shaded_e (n0 := n0) (f0 := elV tyR f0) (n2 := n2) (f2 := elV tyT f2) (n4 := n4) (f4 := elV tyF f4) (n6 := n6) (f6 := elV tyC f6) (x8 := x8) hq
 (repeat' (first | refine evObi ?_ | refine evObc ?_ | refine evObt ?_ | refine evObp hs ?_))
 refine evBrF (pb0 (e2.trans e0.symm) (e1.trans e0.symm)) ?_
 (repeat' (first | refine evObi ?_ | refine evObc ?_ | refine evObt ?_ | refine evObp hs ?_))
 refine evBrF (pb1 fun he => meets_pt (n0 := n0) (f0 := elV tyR f0) (n2 := n2) (f2 := elV tyT f2) (n4 := n4) (f4 := elV tyF f4) (n6 := n6) (f6 := elV tyC f6) (x8 := x8) (e0.symm.trans he) hF a1 a2 b1 b2 hq ho) ?_
 (repeat' (first | refine evObi ?_ | refine evObc ?_ | refine evObt ?_ | refine evObp hs ?_))
 refine evBrF (pb0 (s2.trans s0.symm) (s1.trans s0.symm)) ?_
 (repeat' (first | refine evObi ?_ | refine evObc ?_ | refine evObt ?_ | refine evObp hs ?_))
 refine evBr (fun h2 => ?_) (fun h2 => ?_)
 ·(repeat' (first | refine evObi ?_ | refine evObc ?_ | refine evObt ?_ | refine evObp hs ?_))
  exact evRet rfl
 (repeat' (first | refine evObi ?_ | refine evObc ?_ | refine evObt ?_ | refine evObp hs ?_))
 obtain ⟨q1, q2, q3, q4⟩ := shade_pt (n0 := n0) (f0 := elV tyR f0) (n2 := n2) (f2 := elV tyT f2) (n4 := n4) (f4 := elV tyF f4) (n6 := n6) (f6 := elV tyC f6) (x8 := x8) (s0.symm.trans (by simpa using h2)) hF a1 a2 b1 b2 hq ho
 refine evBrT (pb2 q1 q2 q3 q4) ?_
 (repeat' (first | refine evObi ?_ | refine evObc ?_ | refine evObt ?_ | refine evObp hs ?_))
 exact evRet rfl
def tys6 : List Ty := [.agg [.sl tyR, .sl tyT, .sl tyF, .sl tyC], .agg [.int .i64, .int .i64, .int .i64, .int .i64, .int .i64, .int .u8, .int .u8]]
theorem ok6 : (vP (lawC tys6)).Ok Tryz.prog 6 := mkE tabB34 Tryz.func6 (by kernel_rfl) fun ds hp => rf0 (run6 ..) (evl6 _ _ _ _ _ _ _ _ _ _ _ _ _ _ _ (by have h : szTys [.agg [.sl tyR, .sl tyT, .sl tyF, .sl tyC], .agg [.int .i64, .int .i64, .int .i64, .int .i64, .int .i64, .int .u8, .int .u8]] _ := hp; exact ⟨fun i hi => (h.1.1 i hi).1, fun i hi => (h.1.2.2.2.1 i hi).1, h.2.1.2.2.2.2.2.1, h.2.1.2.2.2.2.2.2.1⟩))
end
end Go.Dx
