/- Part 6 of a proof. No conditions. -/
import Derived.Test.YtkdokmjehblpoaaGreatDoorRg5
set_option maxRecDepth 100000
set_option linter.unusedVariables false
set_option linter.unusedSimpArgs false
namespace Go.Dx
open Go.IntKind (i64 u64 u8)
open Go.Sx
noncomputable section
section
variable {n0 : Nat} {f0 : Nat -> List V} {n2 : Nat} {f2 : Nat -> List V} {n4 : Nat} {f4 : Nat -> List V} {n6 : Nat} {f6 : Nat -> List V} {x8 : Int}
abbrev rN (f0 : FnV) (i : Int) : Nat := c5 (hdV (tlV (tlV (f0 i.toNat))))
abbrev rF (f0 : FnV) (i : Int) : Nat -> List V := fun j => ap tp2 (atV (hdV (tlV (tlV (f0 i.toNat)))) j)
abbrev rW (f0 : FnV) (i : Int) : Int := jv3 (f0 i.toNat)
theorem oF {a b c d : Int} : iF n0 f0 n2 f2 n4 f4 n6 f6 x8 a b c d = (bif cZ n0 f0 n2 f2 n4 f4 n6 f6 x8 n0 != 0 then cZ n0 f0 n2 f2 n4 f4 n6 f6 x8 n0 else bif !hU a b c d then 7 else 0) /\
 (cZ n0 f0 n2 f2 n4 f4 n6 f6 x8 n0 = 0 -> hU a b c d = true -> fG n0 f0 n2 f2 n4 f4 n6 f6 x8 a b c d = F61 (rN f0 x8) (rF f0 x8) (rW f0 x8) a b c d /\ eV (rN f0 x8) (rF f0 x8) (rW f0 x8)) /\ (cZ n0 f0 n2 f2 n4 f4 n6 f6 x8 n0 ≠ 0 -> fG n0 f0 n2 f2 n4 f4 n6 f6 x8 a b c d = 0) := by
 have hc := s8 (n0 := n0) (f0 := f0) (n2 := n2) (f2 := f2) (n4 := n4) (f4 := f4) (n6 := n6) (f6 := f6) (i := x8) (m := n0) (fun h => by have := (jN h).l0; omega)
 unfold fG iF cZ
 rw [hc, ko]
 refine ⟨rfl, fun he hp => ?_, fun he => ?_⟩
 ·rw [he, hp]; exact ⟨rfl, xG he⟩
 ·rw [show (ix1 (bt n0 (elV tyR f0) n2 (elV tyT f2) n4 (elV tyF f4) n6 (elV tyC f6)) x8 (n0 : Int) != 0) = true from by simpa using he]; rfl
theorem D5 {x y : Int} : iJ n0 f0 n2 f2 n4 f4 n6 f6 x8 x y = (bif cZ n0 f0 n2 f2 n4 f4 n6 f6 x8 n0 != 0 then cZ n0 f0 n2 f2 n4 f4 n6 f6 x8 n0 else bif !fx x y then 7 else 0) /\
 (cZ n0 f0 n2 f2 n4 f4 n6 f6 x8 n0 = 0 -> fx x y = true -> gK n0 f0 n2 f2 n4 f4 n6 f6 x8 x y = F74 (rN f0 x8) (rF f0 x8) (rW f0 x8) x y /\ eV (rN f0 x8) (rF f0 x8) (rW f0 x8)) := by
 have hc := s8 (n0 := n0) (f0 := f0) (n2 := n2) (f2 := f2) (n4 := n4) (f4 := f4) (n6 := n6) (f6 := f6) (i := x8) (m := n0) (fun h => by have := (jN h).l0; omega)
 unfold gK iJ cZ
 rw [hc, ck]
 refine ⟨rfl, fun he hp => ?_⟩
 have hp' : F51 2 (elV tp1 (bM [vi x, vi y] 0 1)) = true := hp
 rw [he, hp']; exact ⟨rfl, xG he⟩
theorem xB {a b c d : Int} (he : cZ n0 f0 n2 f2 n4 f4 n6 f6 x8 n6 = 0) (hp : hU a b c d = true) : (bL n0 f0 n2 f2 n4 f4 n6 f6 x8 a b c d = 0 ↔ ∀ i, i < n2 -> ¬ we f2 f6 x8 i a b c d) /\
 (bL n0 f0 n2 f2 n4 f4 n6 f6 x8 a b c d = 2 ↔ ∃ i, i < n2 /\ (shA f2 f6 x8 i a b /\ shA f2 f6 x8 i c b /\ shA f2 f6 x8 i c d /\ shA f2 f6 x8 i a d)) /\ 0 <= bL n0 f0 n2 f2 n4 f4 n6 f6 x8 a b c d /\ bL n0 f0 n2 f2 n4 f4 n6 f6 x8 a b c d <= 2 := by
 obtain ⟨D, T, e, h⟩ := D2.2 he hp
 obtain ⟨p1, p2, p3, p4, p5, p6⟩ := lM hp
 rw [e]
 unfold r9
 have dt : ∀ i, i < n2 -> D i = true -> T i = true := fun i hi hd => by
  have := ((h i hi).1.1 hd).1
  exact (h i hi).2.2 ⟨this.1, Tou.of this.2 (by omega) (by omega) (by omega) (by omega)⟩
 cases hD : exB n2 D with
 | true =>
   obtain ⟨i, hi, hd⟩ := kz.1 hD
   refine ⟨⟨fun h => by simp at h, fun hn => ?_⟩, ⟨fun _ => ⟨i, hi, (h i hi).1.1 hd⟩, fun _ => rfl⟩, by simp, by simp⟩
   exact absurd ((h i hi).2.1 (dt i hi hd)) (hn i hi)
 | false =>
   have nD : ¬ ∃ i, i < n2 /\ (shA f2 f6 x8 i a b /\ shA f2 f6 x8 i c b /\ shA f2 f6 x8 i c d /\ shA f2 f6 x8 i a d) := fun ⟨i, hi, hh⟩ => by
    rw [bN i hi ((h i hi).1.2 hh)] at hD; cases hD
   cases hT : exB n2 T with
   | true =>
     obtain ⟨i, hi, ht⟩ := kz.1 hT
     exact ⟨⟨fun h => by simp at h, fun hn => absurd ((h i hi).2.1 ht) (hn i hi)⟩, ⟨fun h => by simp at h, fun h => absurd h nD⟩, by simp, by simp⟩
   | false =>
     refine ⟨⟨fun _ i hi hh => ?_, fun _ => rfl⟩, ⟨fun h => by simp at h, fun h => absurd h nD⟩, by simp, by simp⟩
     rw [bN i hi ((h i hi).2.2 hh)] at hT; cases hT
end
end
noncomputable section
section
variable {n : Nat} {f : Nat -> List V} {w v X0 Y0 X1 Y1 : Int}
theorem OnP.wide {px py : Int} {i : Nat} (hw : 0 <= w) (hv : w <= v) (h : OnP f w px py 1 i) : OnP f v px py 1 i := Nq.wide hw hv (by decide) h
theorem Au (hr : eV n f w) (hs : eV n f v) (hwv : w <= v) (g1 : pl X0) (g2 : pl Y0) (g3 : pl X1) (g4 : pl Y1) (hX : X0 <= X1) (hY : Y0 <= Y1) : F61 n f w X0 Y0 X1 Y1 <= F61 n f v X0 Y0 X1 Y1 := by
 have := hr.w1
 have a := EV hr g1 g2 g3 g4 hX hY
 have b := EV hs g1 g2 g3 g4 hX hY
 by_cases h2 : F61 n f w X0 Y0 X1 Y1 = 2
 ·obtain ⟨i, hi, k1, k2, k3, k4⟩ := a.1.1 h2
  have := b.1.2 ⟨i, hi, k1.wide (by omega) hwv, k2.wide (by omega) hwv, k3.wide (by omega) hwv, k4.wide (by omega) hwv⟩
  omega
 ·by_cases h0 : F61 n f w X0 Y0 X1 Y1 = 0
  ·omega
  ·obtain ⟨i, hi, px, py, k, hk, k1, k2, k3⟩ := (Eh hr g1 g2 g3 g4 hX hY).1 h0
   have := (Eh hs g1 g2 g3 g4 hX hY).2 ⟨i, hi, px, py, k, hk, k1, k2, k3.wide (by omega) hwv hk⟩
   omega
theorem AS (hr : eV n f w) (hs : eV n f v) (hwv : w <= v) {x y : Int} (g1 : pl x) (g2 : pl y) (h : F74 n f w x y = true) : F74 n f v x y = true := by
 have := hr.w1
 obtain ⟨i, hi, k⟩ := (EA hr g1 g2).1 h
 exact (EA hs g1 g2).2 ⟨i, hi, k.wide (by omega) hwv⟩
end
section
variable {n0 : Nat} {f0 : Nat -> List V} {n2 : Nat} {f2 : Nat -> List V} {n4 : Nat} {f4 : Nat -> List V} {n6 : Nat} {f6 : Nat -> List V} {x8 : Int} {g0 : Nat -> List V} {m2 : Nat} {g2 : Nat -> List V}
theorem tF {x y : Int} (he : cZ n0 f0 n2 f2 n4 f4 n6 f6 x8 n6 = 0) (hu : cZ n0 g0 m2 g2 n4 f4 n6 f6 x8 n6 = 0) (hp : fx x y = true) (hn : n2 <= m2) (hm : ∀ i, i < n2 -> shA f2 f6 x8 i x y -> shA g2 f6 x8 i x y) (h : 0 <= bm n0 f0 n2 f2 n4 f4 n6 f6 x8 x y) :
 0 <= bm n0 g0 m2 g2 n4 f4 n6 f6 x8 x y /\ bm n0 g0 m2 g2 n4 f4 n6 f6 x8 x y <= bm n0 f0 n2 f2 n4 f4 n6 f6 x8 x y := by
 obtain ⟨p, e, hpp⟩ := iT.2 he hp
 obtain ⟨q, e', hqq⟩ := iT.2 hu hp
 rw [e] at h ⊢
 rw [e']
 rcases nG (n := n2) (p := p) with ⟨k1, k2⟩ | ⟨j, k1, k2, k3, k4⟩
 ·rw [k1] at h; omega
 ·rw [k2]
  have hj : q j = true := (hqq j (by omega)).2 (hm j k1 ((hpp j k1).1 k3))
  rcases nG (n := m2) (p := q) with ⟨l1, l2⟩ | ⟨i, l1, l2, l3, l4⟩
  ·have := l2 j (by omega); rw [hj] at this; cases this
  ·rw [l2]
   have : ¬ j < i := fun hlt => by have := l4 j hlt; rw [hj] at this; cases this
   omega
theorem vo {x y : Int} (he : cZ n0 f0 n2 f2 n4 f4 n6 f6 x8 n6 = 0) (hu : cZ n0 g0 m2 g2 n4 f4 n6 f6 x8 n6 = 0) (hp : fx x y = true) (hn : n2 <= m2) (hm : ∀ i, i < n2 -> (shA f2 f6 x8 i x y ↔ shA g2 f6 x8 i x y)) (h : 0 <= bm n0 f0 n2 f2 n4 f4 n6 f6 x8 x y) :
 bm n0 g0 m2 g2 n4 f4 n6 f6 x8 x y = bm n0 f0 n2 f2 n4 f4 n6 f6 x8 x y := by
 obtain ⟨p, e, hpp⟩ := iT.2 he hp
 obtain ⟨q, e', hqq⟩ := iT.2 hu hp
 rw [e] at h ⊢
 rw [e']
 rcases nG (n := n2) (p := p) with ⟨k1, k2⟩ | ⟨j, k1, k2, k3, k4⟩
 ·rw [k1] at h; omega
 ·rw [k2]
  have hj : q j = true := (hqq j (by omega)).2 ((hm j k1).1 ((hpp j k1).1 k3))
  rcases nG (n := m2) (p := q) with ⟨l1, l2⟩ | ⟨i, l1, l2, l3, l4⟩
  ·have := l2 j (by omega); rw [hj] at this; cases this
  ·rw [l2]
   have h1 : ¬ j < i := fun hlt => by have := l4 j hlt; rw [hj] at this; cases this
   have h2 : ¬ i < j := fun hlt => by
    have := k4 i hlt
    rw [(hpp i (by omega)).2 ((hm i (by omega)).2 ((hqq i l1).1 l3))] at this; cases this
   omega
theorem vt {a b c d : Int} (he : cZ n0 f0 n2 f2 n4 f4 n6 f6 x8 n6 = 0) (hu : cZ n0 g0 m2 g2 n4 f4 n6 f6 x8 n6 = 0) (hp : hU a b c d = true) (hn : n2 <= m2) (hm : ∀ i, i < n2 -> ∀ x y, shA f2 f6 x8 i x y -> shA g2 f6 x8 i x y)
 (ht : ∀ i, i < n2 -> we f2 f6 x8 i a b c d -> we g2 f6 x8 i a b c d) : bL n0 f0 n2 f2 n4 f4 n6 f6 x8 a b c d <= bL n0 g0 m2 g2 n4 f4 n6 f6 x8 a b c d := by
 have w := xB he hp
 have w1 := xB hu hp
 by_cases h2 : bL n0 f0 n2 f2 n4 f4 n6 f6 x8 a b c d = 2
 ·obtain ⟨i, hi, k1, k2, k3, k4⟩ := w.2.1.1 h2
  have := w1.2.1.2 ⟨i, by omega, hm i hi _ _ k1, hm i hi _ _ k2, hm i hi _ _ k3, hm i hi _ _ k4⟩
  omega
 ·by_cases h0 : bL n0 f0 n2 f2 n4 f4 n6 f6 x8 a b c d = 0
  ·omega
  ·have : bL n0 g0 m2 g2 n4 f4 n6 f6 x8 a b c d ≠ 0 := fun hz => h0 (w.1.2 fun i hi t => w1.1.1 hz i (by omega) (ht i hi t))
   omega
end
theorem BD {X Y h tx ty R lo hi R' lo' hi' px py : Int} (h0 : 0 <= h) (hR0 : 0 <= R) (hR : R <= R') (hl : lo' <= lo) (hh : hi <= hi') (k : shP X Y h tx ty R lo hi px py) : shP X Y h tx ty R' lo' hi' px py :=
 ⟨by have := k.1; omega, k.2.grow (by omega) (by omega) (imn h0 hR0) (iml hR h0) (by decide)⟩
theorem CI {X Y h tx ty R lo hi R' lo' hi' a b c d : Int} (h0 : 0 <= h) (hR0 : 0 <= R) (hR : R <= R') (hl : lo' <= lo) (hh : hi <= hi') (k : toP X Y h tx ty R lo hi a b c d) : toP X Y h tx ty R' lo' hi' a b c d :=
 ⟨by have := k.1; omega, k.2.grow (by omega) (by omega) (imn h0 hR0) (iml hR h0)⟩
end
noncomputable section
structure Gt (p q : List V) : Prop where
 x : jv0 q = jv0 p
 y : jv1 q = jv1 p
 r : jv2 p <= jv2 q
 lo : jv3 q <= jv3 p
 hi : jv4 p <= jv4 q
structure Sm (p q : List V) : Prop where
 x : jv0 q = jv0 p
 y : jv1 q = jv1 p
 r : jv2 q = jv2 p
 lo : jv3 q = jv3 p
 hi : jv4 q = jv4 p
theorem Sm.gt {p q : List V} (h : Sm p q) : Gt p q := ⟨h.x, h.y, by rw [h.r]; exact Int.le_refl _, by rw [h.lo]; exact Int.le_refl _, by rw [h.hi]; exact Int.le_refl _⟩
structure Wd (p q : List V) : Prop where
 n : c5 (hdV (tlV (tlV q))) = c5 (hdV (tlV (tlV p)))
 w : jv3 p <= jv3 q
 p : ∀ j, ap tp2 (atV (hdV (tlV (tlV q))) j) = ap tp2 (atV (hdV (tlV (tlV p))) j)
section
variable {n0 : Nat} {f0 g0 : Nat -> List V} {n2 m2 : Nat} {f2 g2 : Nat -> List V} {n4 : Nat} {f4 : Nat -> List V} {n6 : Nat} {f6 : Nat -> List V} {x8 x y a b c d : Int}
theorem qd (h1 : bt n0 (elV tyR f0) n2 (elV tyT f2) n4 (elV tyF f4) n6 (elV tyC f6) = 0) (h2 : bt n0 (elV tyR g0) m2 (elV tyT g2) n4 (elV tyF f4) n6 (elV tyC f6) = 0) (m : Nat) : cZ n0 g0 m2 g2 n4 f4 n6 f6 x8 m = cZ n0 f0 n2 f2 n4 f4 n6 f6 x8 m := by
 unfold cZ; rw [h1, h2]
theorem xd (h : cZ n0 f0 n2 f2 n4 f4 n6 f6 x8 n0 ≠ 0 ∨ fx x y = false) : gK n0 f0 n2 f2 n4 f4 n6 f6 x8 x y = false := by
 have hc := s8 (n0 := n0) (f0 := f0) (n2 := n2) (f2 := f2) (n4 := n4) (f4 := f4) (n6 := n6) (f6 := f6) (i := x8) (m := n0) (fun h => by have := (jN h).l0; omega)
 unfold cZ at h
 unfold gK
 rw [hc]
 by_cases hz : ix1 (bt n0 (elV tyR f0) n2 (elV tyT f2) n4 (elV tyF f4) n6 (elV tyC f6)) x8 (n0 : Int) = 0
 ·have hp : F51 2 (elV tp1 (bM [vi x, vi y] 0 1)) = false := h.resolve_left fun h => h hz
  rw [hz, ck, hp]; rfl
 ·rw [show (ix1 (bt n0 (elV tyR f0) n2 (elV tyT f2) n4 (elV tyF f4) n6 (elV tyC f6)) x8 (n0 : Int) != 0) = true from by simpa using hz]; rfl
theorem js (h : cZ n0 f0 n2 f2 n4 f4 n6 f6 x8 n0 ≠ 0 ∨ hU a b c d = false) : fG n0 f0 n2 f2 n4 f4 n6 f6 x8 a b c d = 0 := by
 have hc := s8 (n0 := n0) (f0 := f0) (n2 := n2) (f2 := f2) (n4 := n4) (f4 := f4) (n6 := n6) (f6 := f6) (i := x8) (m := n0) (fun h => by have := (jN h).l0; omega)
 unfold cZ at h
 unfold fG
 rw [hc]
 by_cases hz : ix1 (bt n0 (elV tyR f0) n2 (elV tyT f2) n4 (elV tyF f4) n6 (elV tyC f6)) x8 (n0 : Int) = 0
 ·rw [hz, ko, h.resolve_left fun h => h hz]; rfl
 ·rw [show (ix1 (bt n0 (elV tyR f0) n2 (elV tyT f2) n4 (elV tyF f4) n6 (elV tyC f6)) x8 (n0 : Int) != 0) = true from by simpa using hz]; rfl
theorem c6 (h : cZ n0 f0 n2 f2 n4 f4 n6 f6 x8 n6 ≠ 0 ∨ fx x y = false) : bm n0 f0 n2 f2 n4 f4 n6 f6 x8 x y = 0 := by
 have hc := s8 (n0 := n0) (f0 := f0) (n2 := n2) (f2 := f2) (n4 := n4) (f4 := f4) (n6 := n6) (f6 := f6) (i := x8) (m := n6) (fun h => by have := (jN h).l6; omega)
 unfold cZ at h
 unfold bm
 rw [hc]
 by_cases hz : ix1 (bt n0 (elV tyR f0) n2 (elV tyT f2) n4 (elV tyF f4) n6 (elV tyC f6)) x8 (n6 : Int) = 0
 ·have hp : F51 2 (elV tp1 (bM [vi x, vi y] 0 1)) = false := h.resolve_left fun h => h hz
  rw [hz, ck, hp]; rfl
 ·rw [show (ix1 (bt n0 (elV tyR f0) n2 (elV tyT f2) n4 (elV tyF f4) n6 (elV tyC f6)) x8 (n6 : Int) != 0) = true from by simpa using hz]; rfl
theorem jp (h : cZ n0 f0 n2 f2 n4 f4 n6 f6 x8 n6 ≠ 0 ∨ hU a b c d = false) : bL n0 f0 n2 f2 n4 f4 n6 f6 x8 a b c d = 0 := by
 have hc := s8 (n0 := n0) (f0 := f0) (n2 := n2) (f2 := f2) (n4 := n4) (f4 := f4) (n6 := n6) (f6 := f6) (i := x8) (m := n6) (fun h => by have := (jN h).l6; omega)
 unfold cZ at h
 unfold bL
 rw [hc]
 by_cases hz : ix1 (bt n0 (elV tyR f0) n2 (elV tyT f2) n4 (elV tyF f4) n6 (elV tyC f6)) x8 (n6 : Int) = 0
 ·rw [hz, ko, h.resolve_left fun h => h hz]; rfl
 ·rw [show (ix1 (bt n0 (elV tyR f0) n2 (elV tyT f2) n4 (elV tyF f4) n6 (elV tyC f6)) x8 (n6 : Int) != 0) = true from by simpa using hz]; rfl
theorem Bj {i : Nat} (he : cZ n0 f0 n2 f2 n4 f4 n6 f6 x8 n6 = 0) (hi : i < n2) (hT : Gt (f2 i) (g2 i)) : (shA f2 f6 x8 i x y -> shA g2 f6 x8 i x y) /\ (we f2 f6 x8 i a b c d -> we g2 f6 x8 i a b c d) := by
 have t := (xv he).2 i hi
 have h1 := t.h'
 have h2 := t.R'
 unfold shA we
 rw [hT.x, hT.y]
 exact ⟨BD (by omega) (by omega) hT.r hT.lo hT.hi, CI (by omega) (by omega) hT.r hT.lo hT.hi⟩
theorem FF {i : Nat} (hT : Sm (f2 i) (g2 i)) : shA f2 f6 x8 i x y ↔ shA g2 f6 x8 i x y := by
 unfold shA
 rw [hT.x, hT.y, hT.r, hT.lo, hT.hi]
theorem nF (hn : n2 <= m2) (hT : ∀ i, i < n2 -> Gt (f2 i) (g2 i)) (h1 : bt n0 (elV tyR f0) n2 (elV tyT f2) n4 (elV tyF f4) n6 (elV tyC f6) = 0) (h2 : bt n0 (elV tyR g0) m2 (elV tyT g2) n4 (elV tyF f4) n6 (elV tyC f6) = 0) :
 dS n0 f0 n2 f2 n4 f4 n6 f6 x8 x y = dS n0 g0 m2 g2 n4 f4 n6 f6 x8 x y /\ (0 <= bm n0 f0 n2 f2 n4 f4 n6 f6 x8 x y -> 0 <= bm n0 g0 m2 g2 n4 f4 n6 f6 x8 x y /\ bm n0 g0 m2 g2 n4 f4 n6 f6 x8 x y <= bm n0 f0 n2 f2 n4 f4 n6 f6 x8 x y) /\
 bL n0 f0 n2 f2 n4 f4 n6 f6 x8 a b c d <= bL n0 g0 m2 g2 n4 f4 n6 f6 x8 a b c d := by
 have he := qd (x8 := x8) h1 h2 n6
 refine ⟨by rw [iT.1, iT.1, he], fun h => ?_, ?_⟩
 ·by_cases hz : cZ n0 f0 n2 f2 n4 f4 n6 f6 x8 n6 = 0
  ·cases hp : fx x y with
   | true => exact tF hz (he.trans hz) hp hn (fun i hi => (Bj (a := 0) (b := 0) (c := 0) (d := 0) hz hi (hT i hi)).1) h
   | false => rw [c6 (.inr hp), c6 (.inr hp)]; exact ⟨by decide, by decide⟩
  ·rw [c6 (.inl hz), c6 (.inl (by rw [he]; exact hz))]; exact ⟨by decide, by decide⟩
 ·by_cases hz : cZ n0 f0 n2 f2 n4 f4 n6 f6 x8 n6 = 0
  ·cases hp : hU a b c d with
   | true => exact vt hz (he.trans hz) hp hn (fun i hi x y => (Bj (a := 0) (b := 0) (c := 0) (d := 0) hz hi (hT i hi)).1) (fun i hi => (Bj (x := 0) (y := 0) hz hi (hT i hi)).2)
   | false => rw [jp (.inr hp), jp (.inr hp)]; exact Int.le_refl _
  ·rw [jp (.inl hz), jp (.inl (by rw [he]; exact hz))]; exact Int.le_refl _
theorem ta (hn : n2 <= m2) (hT : ∀ i, i < n2 -> Sm (f2 i) (g2 i)) (h1 : bt n0 (elV tyR f0) n2 (elV tyT f2) n4 (elV tyF f4) n6 (elV tyC f6) = 0) (h2 : bt n0 (elV tyR g0) m2 (elV tyT g2) n4 (elV tyF f4) n6 (elV tyC f6) = 0) (h : 0 <= bm n0 f0 n2 f2 n4 f4 n6 f6 x8 x y) :
 bm n0 g0 m2 g2 n4 f4 n6 f6 x8 x y = bm n0 f0 n2 f2 n4 f4 n6 f6 x8 x y := by
 have he := qd (x8 := x8) h1 h2 n6
 by_cases hz : cZ n0 f0 n2 f2 n4 f4 n6 f6 x8 n6 = 0
 ·cases hp : fx x y with
  | true => exact vo hz (he.trans hz) hp hn (fun i hi => FF (hT i hi)) h
  | false => rw [c6 (.inr hp), c6 (.inr hp)]
 ·rw [c6 (.inl hz), c6 (.inl (by rw [he]; exact hz))]
theorem Am (hR : ∀ i, i < n0 -> Wd (f0 i) (g0 i)) (h1 : bt n0 (elV tyR f0) n2 (elV tyT f2) n4 (elV tyF f4) n6 (elV tyC f6) = 0) (h2 : bt n0 (elV tyR g0) m2 (elV tyT g2) n4 (elV tyF f4) n6 (elV tyC f6) = 0) :
 iJ n0 g0 m2 g2 n4 f4 n6 f6 x8 x y = iJ n0 f0 n2 f2 n4 f4 n6 f6 x8 x y /\ iF n0 g0 m2 g2 n4 f4 n6 f6 x8 a b c d = iF n0 f0 n2 f2 n4 f4 n6 f6 x8 a b c d /\
 (gK n0 f0 n2 f2 n4 f4 n6 f6 x8 x y = true -> gK n0 g0 m2 g2 n4 f4 n6 f6 x8 x y = true) /\ fG n0 f0 n2 f2 n4 f4 n6 f6 x8 a b c d <= fG n0 g0 m2 g2 n4 f4 n6 f6 x8 a b c d := by
 have he := qd (x8 := x8) h1 h2 n0
 refine ⟨by rw [D5.1, D5.1, he], by rw [oF.1, oF.1, he], fun h => ?_, ?_⟩
 ·by_cases hz : cZ n0 f0 n2 f2 n4 f4 n6 f6 x8 n0 = 0
  ·cases hp : fx x y with
   | true =>
     obtain ⟨e1, r1⟩ := D5.2 hz hp
     obtain ⟨e2, r2⟩ := D5.2 (he.trans hz) hp
     rw [e1] at h; rw [e2]
     obtain ⟨_, z1, z2⟩ := lR hz
     have W := hR x8.toNat (by omega)
     have en : rN g0 x8 = rN f0 x8 := W.n
     have ef : rF g0 x8 = rF f0 x8 := funext W.p
     rw [en, ef] at r2 ⊢
     have hp' := qS hp
     exact AS r1 r2 W.w (by unfold pl; omega) (by unfold pl; omega) h
   | false => rw [xd (.inr hp)] at h; cases h
  ·rw [xd (.inl hz)] at h; cases h
 ·by_cases hz : cZ n0 f0 n2 f2 n4 f4 n6 f6 x8 n0 = 0
  ·cases hp : hU a b c d with
   | true =>
     obtain ⟨e1, r1⟩ := oF.2.1 hz hp
     obtain ⟨e2, r2⟩ := oF.2.1 (he.trans hz) hp
     rw [e1, e2]
     obtain ⟨_, z1, z2⟩ := lR hz
     have W := hR x8.toNat (by omega)
     have en : rN g0 x8 = rN f0 x8 := W.n
     have ef : rF g0 x8 = rF f0 x8 := funext W.p
     rw [en, ef] at r2 ⊢
     obtain ⟨q1, q2, q3, q4, q5, q6⟩ := lM hp
     exact Au r1 r2 W.w (by unfold pl; omega) (by unfold pl; omega) (by unfold pl; omega) (by unfold pl; omega) q5 q6
   | false => rw [js (.inr hp), js (.inr hp)]; exact Int.le_refl _
  ·rw [js (.inl hz), js (.inl (by rw [he]; exact hz))]; exact Int.le_refl _
end
theorem gbA {e f s u w z : Int} (h1 : e = f) (h2 : 0 <= s -> 0 <= u /\ u <= s) (h3 : z <= w) : (bif bif e != f then true else bif decide (0 <= s) then bif decide (u < 0) then true else decide (s < u) else false then true else decide (w < z)) = false := by
 subst h1
 rw [bne_self_eq_false, cond_false]
 by_cases hs : 0 <= s
 ·have := h2 hs
  rw [dqt hs, dqf (show ¬ u < 0 by omega), dqf (show ¬ s < u by omega), dqf (show ¬ w < z by omega)]; rfl
 ·rw [dqf hs, dqf (show ¬ w < z by omega)]; rfl
theorem gbB {e f g h m n : Int} {p q : Bool} (h1 : f = e) (h2 : h = g) (h3 : p = true -> q = true) (h4 : m <= n) : (bif bif bif f != e then true else h != g then true else bif p then !q else false then true else decide (n < m)) = false := by
 subst h1; subst h2
 rw [bne_self_eq_false, bne_self_eq_false, dqf (show ¬ n < m by omega)]
 cases p with
 | true => rw [h3 rfl]; rfl
 | false => rfl
theorem gbC {e f s u w z : Int} (h1 : e = f) (h2 : 0 <= s -> u = s) (h3 : z <= w) : (bif bif e != f then true else bif decide (0 <= s) then u != s else false then true else decide (w < z)) = false := by
 subst h1
 rw [bne_self_eq_false, cond_false, dqf (show ¬ w < z by omega)]
 by_cases hs : 0 <= s
 ·rw [dqt hs, h2 hs]; simp
 ·rw [dqf hs]; rfl
end
end Go.Dx
namespace Go.Dx
open Go.Sx Go.RowKit
def tyB : Ty -> Nat
 | .int .u8 => 1
 | .int .i8 => 1
 | .int .u16 => 2
 | .int .i16 => 2
 | .int .u32 => 4
 | .int .i32 => 4
 | .int _ => 8
 | .bool => 1
 | .str => 16
 | .sl _ => 24
 | _ => 0
def yR : List Ty -> Nat
 | [] => 0
 | t :: ts => tyB t + yR ts
mutual
def lz : Ty -> V -> Prop
 | .agg ts, v => dD ts (cD v)
 | .sl ts, v => c5 v * yR ts <= 140737488351232 /\ ∀ i, i < c5 v -> dD ts (atV v i)
 | _, _ => True
def dD : List Ty -> List V -> Prop
 | [], _ => True
 | t :: ts, vs => lz t (hdV vs) /\ dD ts (tlV vs)
end
mutual
theorem ze : ∀ (t : Ty) (v : V), lz t v -> lz t (view t v)
 | .int _, _, _ => trivial
 | .bool, _, _ => trivial
 | .str, _, _ => trivial
 | .agg ts, v, h => by simp only [view, lz, cD] at h ⊢; exact fj ts _ h
 | .sl ts, v, h => by simp only [view, lz, c5, atV] at h ⊢; exact ⟨h.1, fun i hi => fj ts _ (h.2 i hi)⟩
 | .fn .., _, _ => trivial
 | .pd _, _, _ => trivial
theorem fj : ∀ (ts : List Ty) (vs : List V), dD ts vs -> dD ts (ap ts vs)
 | [], _, _ => trivial
 | t :: ts, vs, h => by simp only [dD, ap, hdV, tlV] at h ⊢; exact ⟨ze t _ h.1, fj ts _ h.2⟩
end
theorem jn : ∀ {ts us : List Ty} {vs xs : List V}, aI ts vs -> dD ts vs -> dD us xs -> dD (ts ++ us) (vs ++ xs)
 | [], _, _, _, h, _, k => by simp only [aI] at h; subst h; simpa using k
 | t :: ts, us, vs, xs, h, hz, k => by
   simp only [aI] at h
   rw [h.1]
   simp only [dD] at hz
   simp only [List.cons_append, dD, hdV, tlV]
   exact ⟨hz.1, jn h.2.2 hz.2 k⟩
def sV (P : Program) : Nat -> TypeId -> Bool
 | 0, _ => false
 | fu + 1, t => match P.underlying t with
   | some (.slice e) => match e9 P fu e with
     | some ts => decide (yR ts <= P.bytesOf e) && sV P fu e
     | none => false
   | some (.struct fs) => fs.toList.all fun f => sV P fu f.type
   | some (.array _ e) => sV P fu e
   | _ => true
def small (l : List Nat) : Prop := ∀ x, x ∈ l -> x <= reachBytes
section
variable {P : Program} {H : Type} {enc : TypeId × Value -> H} {w : World} {base : Nat} {spare : Nat -> Bool} {held : Bool}
theorem qb {e : TypeId} : ∀ {l : List (DataW H)} {i : Nat} {d : DataW H}, small (DataW.weightsAll P e l) -> l[i]? = some d -> small (d.weights P e)
 | [], _, _, _, h => by simp at h
 | a :: l, 0, d, hs, h => by
   simp at h; subst h
   exact fun x hx => hs x (by simp only [DataW.weightsAll]; exact List.mem_append_left _ hx)
 | a :: l, i + 1, d, hs, h => qb (l := l) (i := i) (fun x hx => hs x (by simp only [DataW.weightsAll]; exact List.mem_append_right _ hx)) (by simpa using h)
theorem zX {a : Addr} {n c esz : Nat} {ts : List Ty} (hn : n <= c) (hc : c <= maxLen) (hcell : ts.all a6 = true) (hw : n * yR ts <= 140737488351232)
 (h : ∀ i, i < n -> ∃ cs : List Value, dL w (a.add (i * esz)) 0 esz = some (cs.map aN) /\ ∃ vs, vrs w [] Nu.nil vs (cs.map aN) /\ (aI ts vs /\ d9 ts vs /\ dD ts vs) /\ vs.all V.fc = true) :
 ∃ v, vr w [] Nu.nil v (.slice (some (.g a)) n c) /\ (bw (.sl ts) v /\ qI (.sl ts) v /\ lz (.sl ts) v) /\ v.fc = true := by
 classical
 refine ⟨.sl n fun i => if hi : i < n then (Classical.choose (Classical.choose_spec (h i hi)).2) else [], ?_, ?_, rfl⟩
 ·simp only [vr]
  refine ⟨some (.g a), c, esz, rfl, hn, by unfold maxLen at hc; omega, trivial, fun i hi => ?_⟩
  have h1 := Classical.choose_spec (h i hi)
  have h2 := Classical.choose_spec h1.2
  refine ⟨.g a, (Classical.choose (h i hi)).map aN, rfl, ?_, ?_, ?_⟩
  ·simp only [Ptr.add, lds]; exact h1.1
  ·simp only [hi, dite_true]; exact h2.1
  ·simp only [hi, dite_true]; exact h2.2.2
 ·simp only [bw, qI, lz, c5, atV, zi]
  refine ⟨⟨.inl rfl, hcell, fun i hi => ?_⟩, fun i hi => ?_, hw, fun i hi => ?_⟩
  ·simp only [hi, dite_true]
   exact (Classical.choose_spec (Classical.choose_spec (h i hi)).2).2.1.1
  ·simp only [hi, dite_true]
   exact (Classical.choose_spec (Classical.choose_spec (h i hi)).2).2.1.2.1
  ·simp only [hi, dite_true]
   exact (Classical.choose_spec (Classical.choose_spec (h i hi)).2).2.1.2.2
theorem lI {rec : TypeId -> Option (List Ty)} {ok : TypeId -> Bool} {fuel : Nat} (hr : ∀ t ts cs d ps, rec t = some ts -> ok t = true -> small (DataW.weights P t d) -> DataW.trod enc P w base spare held fuel t cs = some (d, ps) -> ∃ vs, vrs w [] Nu.nil vs (cs.map aN) /\ aI ts vs /\ d9 ts vs /\ dD ts vs) (cs : List Value) :
 ∀ {fs : List Field} {off n : Nat} {ts : List Ty} {ds : List (DataW H)}, ej P rec fs off = some (ts, n) -> fs.all (fun f => ok f.type) = true -> small (DataW.weightsEach P (fs.map (·.type)) ds) ->
 (∀ (i : Nat) (f : Field), fs[i]? = some f -> ∃ d ps, ds[i]? = some d /\ DataW.trod enc P w base spare held fuel f.type ((cs.drop f.offset).take (P.cellsOf f.type)) = some (d, ps)) -> cs.length = n ->
 ∃ vs, vrs w [] Nu.nil vs ((cs.drop off).map aN) /\ aI ts vs /\ d9 ts vs /\ dD ts vs
 | [], off, n, ts, ds, h, _, _, _, hl => by
   simp [ej] at h
   obtain ⟨rfl, rfl⟩ := h
   exact ⟨[], by rw [List.drop_eq_nil_of_le (by omega)]; simp [vrs], by simp [aI], trivial, trivial⟩
 | f :: l, off, n, ts, ds, h, ho, hs, hx, hl => by
   simp only [ej] at h
   simp only [List.all_cons, Bool.and_eq_true] at ho
   split at h
   ·rename_i us vs m h1 h2
    split at h
    ·rename_i hc
     cases h
     obtain ⟨rfl, hlen⟩ := hc
     obtain ⟨d, ps, hd, ha⟩ := hx 0 f rfl
     match ds, hd with
     | d' :: ds, hd =>
       simp at hd; subst hd
       simp only [List.map_cons, DataW.weightsEach] at hs
       obtain ⟨v1, g1, g2, z1, y1⟩ := hr _ _ _ _ _ h1 ho.1 (fun x hx => hs x (List.mem_append_left _ hx)) ha
       obtain ⟨v2, g3, g4, z2, y2⟩ := lI hr cs (ds := ds) h2 ho.2 (fun x hx => hs x (List.mem_append_right _ hx)) (fun i g hg => by simpa using hx (i + 1) g (by simpa using hg)) hl
       refine ⟨v1 ++ v2, ?_, ir g2 g4, jj g2 z1 z2, jn g2 y1 y2⟩
       have e : cs.drop f.offset = (cs.drop f.offset).take (P.cellsOf f.type) ++ cs.drop (f.offset + P.cellsOf f.type) := by
        rw [← List.drop_drop]; exact (List.take_append_drop _ _).symm
       rw [e, List.map_append]
       exact gF g1 g3
    ·cases h
   ·cases h
theorem uC {fuel k : Nat} {e : TypeId} {us : List Ty} (hr : ∀ cs d ps, small (DataW.weights P e d) -> DataW.trod enc P w base spare held fuel e cs = some (d, ps) -> ∃ vs, vrs w [] Nu.nil vs (cs.map aN) /\ aI us vs /\ d9 us vs /\ dD us vs) (cs : List Value) :
 ∀ (n m : Nat), cs.length = (m + n) * k -> (∀ i, m <= i -> i < m + n -> ∃ d ps, small (DataW.weights P e d) /\ DataW.trod enc P w base spare held fuel e ((cs.drop (i * k)).take k) = some (d, ps)) -> ∃ vs, vrs w [] Nu.nil vs ((cs.drop (m * k)).map aN) /\ aI (List.replicate n us).flatten vs /\ d9 (List.replicate n us).flatten vs /\ dD (List.replicate n us).flatten vs := by
 intro n
 induction n with
 | zero => intro m hl _; exact ⟨[], by rw [List.drop_eq_nil_of_le (by simp at hl; omega)]; simp [vrs], by simp [aI], trivial, trivial⟩
 | succ n ih =>
   intro m hl h
   obtain ⟨d, ps, hs, hx⟩ := h m (Nat.le_refl _) (by omega)
   obtain ⟨v1, g1, g2, z1, y1⟩ := hr _ _ _ hs hx
   obtain ⟨v2, g3, g4, z2, y2⟩ := ih (m + 1) (by rw [hl]; congr 1; omega) (fun i h1 h2 => h i (by omega) (by omega))
   refine ⟨v1 ++ v2, ?_, by rw [List.replicate_succ, List.flatten_cons]; exact ir g2 g4, by rw [List.replicate_succ, List.flatten_cons]; exact jj g2 z1 z2, by rw [List.replicate_succ, List.flatten_cons]; exact jn g2 y1 y2⟩
   have e : cs.drop (m * k) = (cs.drop (m * k)).take k ++ cs.drop ((m + 1) * k) := by
    rw [Nat.succ_mul, ← List.drop_drop]; exact (List.take_append_drop _ _).symm
   rw [e, List.map_append]
   exact gF g1 g3
theorem CA : ∀ (fuel fu : Nat) (t : TypeId) (ts : List Ty) (cs : List Value) (d : DataW H) (ps : List MemPlace), e9 P fu t = some ts -> sV P fu t = true -> small (DataW.weights P t d) -> DataW.trod enc P w base spare held fuel t cs = some (d, ps) -> ∃ vs, vrs w [] Nu.nil vs (cs.map aN) /\ aI ts vs /\ d9 ts vs /\ dD ts vs := by
 intro fuel
 induction fuel with
 | zero => intro fu t ts cs d ps _ _ _ h; cases h
 | succ fuel ih =>
   intro fu t ts cs d ps ht hk hs h
   cases fu with
   | zero => cases ht
   | succ fu =>
     have hok := fd ht
     simp only [e9] at ht
     simp only [sV] at hk
     split at ht
     ·rename_i hu
      cases ht
      obtain ⟨b, rfl, _⟩ := DataW.trod_bool hu h
      exact ⟨[.bool b], by simp [vrs, vr, aN], by simp [aI, bw, hdV, tlV, bv], ⟨trivial, trivial⟩, trivial, trivial⟩
     ·rename_i k hu
      cases ht
      obtain ⟨n, rfl, _, hwf⟩ := DataW.trod_int hu h
      exact ⟨[.int k n], by simp [vrs, vr, aN], by simp [aI, bw, hdV, tlV, iv], ⟨BT hwf, trivial⟩, by simp [dD, lz]⟩
     ·rename_i hu
      cases ht
      obtain ⟨b, rfl, _, hb⟩ := DataW.trod_string hu h
      exact ⟨[.str b], by simp [vrs, vr, aN], by simp [aI, bw, hdV, tlV, sv], ⟨(show b.size <= 9223372036854775807 by unfold maxLen at hb; omega), trivial⟩, by simp [dD, lz]⟩
     ·rename_i e hu
      rw [hu] at hk
      dsimp only at hk
      split at ht
      ·rename_i us hus
       rw [hus] at hk
       simp only [Bool.and_eq_true, decide_eq_true_eq] at hk
       split at ht
       ·rename_i hlen
        cases ht
        have hcell := fd hus
        rcases DataW.trod_slice hu h with ⟨rfl, _⟩ | ⟨a, len, cap, elems, rest, n, hn, rfl, hx, _, h3, h4, h5, h6, _⟩
        ·exact ⟨[.sl 0 fun _ => []], by simp only [List.map_cons, List.map_nil, aN, vrs, vr]; exact ⟨_, _, rfl, ⟨none, 0, 0, rfl, Nat.le_refl _, by omega, trivial, fun i hi => by omega⟩, rfl⟩, by simp only [aI, bw, hdV, tlV, c5, zi]; exact ⟨trivial, ⟨.inl rfl, hcell, fun i hi => by omega⟩, trivial⟩, ⟨(fun i hi => by simp [c5, hdV] at hi), trivial⟩, by simp only [dD, lz, hdV, c5]; exact ⟨⟨by omega, fun i hi => by omega⟩, trivial⟩⟩
        ·cases hn
         simp only [Prod.mk.injEq] at hx
         obtain ⟨rfl, _⟩ := hx
         simp only [DataW.weights, hu] at hs
         have hbig : len * yR us <= 140737488351232 := by
          have h1 := hs _ List.mem_cons_self
          simp only [List.length_map, reachBytes] at h1
          have h2 : len * yR us <= (elems.length + rest.length) * P.bytesOf e := Nat.mul_le_mul (by omega) hk.1
          omega
         obtain ⟨v, g1, g2, _⟩ := zX (w := w) (a := a) (n := len) (c := cap) (esz := P.cellsOf e) (ts := us) h3 h4 hcell hbig (fun i hi => by
          have h7 := h6 i hi
          rw [List.getElem?_eq_getElem (by omega)] at h7
          cases hcs : w.cells? base (a.add (i * P.cellsOf e)) (P.cellsOf e) with
          | none => rw [hcs] at h7; cases h7
          | some cs' =>
            rw [hcs] at h7
            have hsi : small (DataW.weights P e elems[i].1) := qb (l := elems.map (·.1)) (i := i) (fun x hx => hs x (List.mem_cons_of_mem _ (List.mem_append_left _ hx))) (by rw [List.getElem?_map, List.getElem?_eq_getElem (by omega)]; rfl)
            obtain ⟨vs, g1, g2, z2, y2⟩ := ih fu e us cs' elems[i].1 elems[i].2 hus hk.2 hsi h7
            unfold World.cells? at hcs
            split at hcs
            ·rw [List.range_eq_range'] at hcs
             exact ⟨cs', fX _ 0 cs' hcs, vs, g1, ⟨g2, z2, y2⟩, me g2 hcell⟩
            ·cases hcs)
         exact ⟨[v], by simp only [List.map_cons, List.map_nil, aN, vrs]; exact ⟨_, _, rfl, g1, rfl⟩, by simp only [aI, hdV, tlV]; exact ⟨trivial, g2.1, trivial⟩, ⟨g2.2.1, trivial⟩, ⟨g2.2.2, trivial⟩⟩
       ·cases ht
      ·cases ht
     ·rename_i fs hu
      rw [hu] at hk
      dsimp only at hk
      split at ht
      ·rename_i us n hf
       split at ht
       ·rename_i hn
        cases ht
        obtain ⟨xs, m, hm, hx, h3, h4, h5⟩ := DataW.trod_struct hu h
        cases hm
        simp only [Prod.mk.injEq] at hx
        obtain ⟨rfl, _⟩ := hx
        simp only [DataW.weights, hu] at hs
        have := lI (off := 0) (ok := sV P fu) (fun t ts cs d ps => ih fu t ts cs d ps) cs hf hk hs (fun i f hf' => by
         have hi : i < fs.size := by
          have := (List.getElem?_eq_some_iff.1 hf').1
          simpa using this
         have h6 := h5 i f (by simpa using hf')
         rw [List.getElem?_eq_getElem (by omega)] at h6
         exact ⟨xs[i].1, xs[i].2, by rw [List.getElem?_map, List.getElem?_eq_getElem (by omega)]; rfl, h6⟩) (by rw [h3, hn])
        simpa using this
       ·cases ht
      ·cases ht
     ·rename_i n e hu
      rw [hu] at hk
      dsimp only at hk
      split at ht
      ·rename_i us hus
       split at ht
       ·rename_i hc
        cases ht
        obtain ⟨xs, m, hm, hx, h3, h4, h5⟩ := DataW.trod_array hu h
        cases hm
        simp only [Prod.mk.injEq] at hx
        obtain ⟨rfl, _⟩ := hx
        simp only [DataW.weights, hu] at hs
        have := uC (k := P.cellsOf e) (fun cs d ps => ih fu e us cs d ps hus hk) cs n 0 (by rw [h3, hc.2]; simp) (fun i _ hi => by
         have h6 := h5 i (by omega)
         rw [List.getElem?_eq_getElem (by omega)] at h6
         exact ⟨xs[i].1, xs[i].2, qb (l := xs.map (·.1)) (i := i) hs (by rw [List.getElem?_map, List.getElem?_eq_getElem (by omega)]; rfl), h6⟩)
        simpa using this
       ·cases ht
      ·cases ht
     ·cases ht
end
section
variable {P : Program} {H : Type} {enc : TypeId × Value -> H} {W : World} {base : Nat}
theorem I4 {fu : Nat} {t : TypeId} {ty : Ty} {v : Value} {d : DataW H} {ps : List MemPlace} {b : Nat} {spare : Nat -> Bool} {held : Bool} (ht : A5 P fu t = some ty) (hk : sV P fu t = true) (hs : small (DataW.weights P t d)) (hv : Value.okWide P W .any base t v) (h : DataW.Trod enc P W b spare held t v d ps) :
 ∃ x, vr W [] Nu.nil x (kY v) /\ bw ty x /\ qI ty x /\ lz ty x := by
 obtain ⟨fuel, h⟩ := h
 unfold A5 at ht
 unfold Value.okWide at hv
 split at ht
 ·rename_i fs hu
  rw [hu] at hv
  obtain ⟨cs, rfl, _, _⟩ := hv
  simp only [Option.map_eq_some_iff] at ht
  obtain ⟨ts, hts, rfl⟩ := ht
  obtain ⟨vs, g1, g2, z2, y2⟩ := CA fuel fu t ts _ d ps hts hk hs h
  exact ⟨.agg vs, by simp only [kY, vr]; exact ⟨_, rfl, g1⟩, by simp only [bw, cD]; exact ⟨trivial, g2⟩, z2, by simp only [lz, cD]; exact y2⟩
 ·rename_i n e hu
  rw [hu] at hv
  obtain ⟨cs, rfl, _, _⟩ := hv
  simp only [Option.map_eq_some_iff] at ht
  obtain ⟨ts, hts, rfl⟩ := ht
  obtain ⟨vs, g1, g2, z2, y2⟩ := CA fuel fu t ts _ d ps hts hk hs h
  exact ⟨.agg vs, by simp only [kY, vr]; exact ⟨_, rfl, g1⟩, by simp only [bw, cD]; exact ⟨trivial, g2⟩, z2, by simp only [lz, cD]; exact y2⟩
 ·rename_i k hu
  cases ht
  obtain ⟨n, hc, _, hwf⟩ := DataW.trod_int hu h
  have : v = .int k n := by
   rw [hu] at hv
   unfold Cell.okWide at hv
   rw [hu] at hv
   cases v <;> simp_all [Value.cells, Cell.ok]
  subst this
  exact ⟨.int k n, by simp [kY, aN, vr], by simp [bw, iv], BT hwf, by simp [lz]⟩
 ·rename_i hu
  cases ht
  obtain ⟨n, hc, _⟩ := DataW.trod_bool hu h
  have : v = .bool n := by
   rw [hu] at hv
   unfold Cell.okWide at hv
   rw [hu] at hv
   cases v <;> simp_all [Value.cells, Cell.ok]
  subst this
  exact ⟨.bool n, by simp [kY, aN, vr], by simp [bw, bv], trivial, by simp [lz]⟩
 ·cases ht
theorem B4 {fu : Nat} {b : Nat} {spare : Nat -> Bool} {held : Bool} : ∀ {ts : List TypeId} {tys : List Ty} {vs : List Value} {ds : List (DataW H)} {ps : List MemPlace}, argTys P fu ts = some tys -> ts.all (sV P fu) = true -> small (DataW.weightsEach P ts ds) -> (∀ (j : Nat) t v, ts[j]? = some t -> vs[j]? = some v -> Value.okWide P W .any base t v) -> DataW.TrodAll enc P W b spare held ts vs ds ps ->
 ∃ xs, vrs W [] Nu.nil xs (vs.map kY) /\ aI tys xs /\ d9 tys xs /\ dD tys xs
 | [], tys, [], [], ps, ht, _, _, _, h => by simp only [argTys, Option.some.injEq] at ht; subst ht; exact ⟨[], by simp [vrs], by simp [aI], trivial, trivial⟩
 | t :: ts, tys, v :: vs, d :: ds, ps, ht, hk, hs, hv, h => by
   simp only [argTys] at ht
   simp only [List.all_cons, Bool.and_eq_true] at hk
   simp only [DataW.weightsEach] at hs
   split at ht
   ·rename_i x xs hx hxs
    cases ht
    obtain ⟨p, q, h1, h2, _⟩ := h
    obtain ⟨y, g1, g2, z1, y1⟩ := I4 hx hk.1 (fun x hx => hs x (List.mem_append_left _ hx)) (hv 0 t v rfl rfl) h1
    obtain ⟨ys, g3, g4, z2, y2⟩ := B4 hxs hk.2 (fun x hx => hs x (List.mem_append_right _ hx)) (fun j t v hj hvj => hv (j + 1) t v (by simpa using hj) (by simpa using hvj)) h2
    exact ⟨y :: ys, by simp only [List.map_cons, vrs]; exact ⟨_, _, rfl, g1, g3⟩, by simp only [aI, hdV, tlV]; exact ⟨trivial, g2, g4⟩, ⟨z1, z2⟩, ⟨y1, y2⟩⟩
   ·cases ht
 | [], _, _ :: _, _, _, _, _, _, _, h => by simp [DataW.TrodAll] at h
 | [], _, [], _ :: _, _, _, _, _, _, h => by simp [DataW.TrodAll] at h
 | _ :: _, _, [], _, _, _, _, _, _, h => by simp [DataW.TrodAll] at h
 | _ :: _, _, _ :: _, [], _, _, _, _, _, h => by simp [DataW.TrodAll] at h
def lawD (tys : List Ty) : a7 := mkC tys (fun vs => d9 tys vs /\ dD tys vs) fun _ => .bool true
theorem law_callsD {f : FuncId} {fu b : Nat} {spare : Nat -> Bool} {held : Bool} {tys : List Ty} {ts : List TypeId} {args : Array Value} {ds : List (DataW H)} {ps : List MemPlace} (hOk : (vP (lawD tys)).Ok P f) (ht : argTys P fu ts = some tys) (hk : ts.all (sV P fu) = true) (hs : small (DataW.weightsEach P ts ds))
 (hv : ∀ (j : Nat) t v, ts[j]? = some t -> args[j]? = some v -> Value.okWide P W .any base t v) (hA : DataW.TrodAll enc P W b spare held ts args.toList ds ps) :
 Calls P f args W fun e W' => e = .returned (.bool true) /\ Below W.heap.size W W' := by
 obtain ⟨xs, g1, g2, z2, y2⟩ := B4 (vs := args.toList) ht hk hs (fun j t v hj hvj => hv j t v hj (by simpa using hvj)) hA
 obtain ⟨_, hc⟩ := hOk.sound ⟨W, W, fun _ => False, []⟩ (fun _ => none) [] W (args.toList.map kY) args.toList (fun r _ => r = .bool true) (aD.start W) (oa _)
  ⟨ap tys xs, _, _, _, ep tys xs _ g2 g1, rfl, ⟨dH tys xs [], by rw [(gV tys _ [] [] (dH tys xs [])).1]; exact ⟨ft tys _ (ft tys xs z2), fj tys _ (fj tys xs y2)⟩⟩, rfl, rfl⟩
 refine hc.mono fun e w' ⟨v, r, m', lh', he, hr, _, hh, hk⟩ => ?_
 subst hk
 simp only [vrel] at hr
 subst hr
 exact ⟨he, hh.os, hh.tape, hh.output, hh.fsize, hh.old⟩
end
end Go.Dx
namespace Go.Dx
open Go.IntKind (i64 u64 u8)
open Go.Sx Go.Proofs
noncomputable section
def B3 : bj := (19, .con C19) :: (17, .con C17) :: yw
theorem FJ : be Tryz.prog eqs its B3 := .con Dz (.con Ly (As))
attribute [local irreducible] fG iF gK iJ bm dS bL kR
inductive S7 where
 | L0 (ia0 : Int) (fa1 : Nat -> List V)
def L8 (n0 : Nat) (f0 : FnV) (n2 : Nat) (f2 : FnV) (n4 : Nat) (f4 : FnV) (n6 : Nat) (f6 : FnV) (x8 x9 x10 x11 x12 x13 x14 x15 x16 x17 x18 x19 : Int) : S7 -> Env × List O × Option Ex
 | .L0 ia0 fa1 => ([(8, vi ia0), (7, V.pl 0 0), (5, V.pl 1 0), (4, V.pl 2 0), (3, V.pl 3 0)], [O.cells [V.gs 4 n0, V.gs 5 n2, V.sl n4 (elV tyF f4), V.sl n6 (elV tyC f6)] 27, O.cells [V.int u8 x15, V.int u8 x16, V.int u8 x17, V.int u8 x18, V.int u8 x19] 51, O.cells [vi x8, vi x9, vi x10, vi x11, vi x12, vi x13, vi x14] 31, O.cells [V.sl n0 (elV tyR f0), V.sl n2 (elV tyT f2), V.sl n4 (elV tyF f4), V.sl n6 (elV tyC f6)] 27, O.gl 4 n0 (elV tyR fa1) 54, O.gl 5 n2 (elV tyT f2) 57], none)
def id7 : S7 -> JJ
 | .L0 ia0 fa1 => (0, [])
def rl7 (n0 : Nat) (f0 : FnV) (n2 : Nat) (f2 : FnV) (n4 : Nat) (f4 : FnV) (n6 : Nat) (f6 : FnV) (x8 x9 x10 x11 x12 x13 x14 x15 x16 x17 x18 x19 : Int) : T (ca JJ) := bk JJ B3 u0 s7 [scV n0 f0 n2 f2 n4 f4 n6 f6, V.agg [vi x8, vi x9, vi x10, vi x11, vi x12, vi x13, vi x14], V.agg [V.int u8 x15, V.int u8 x16, V.int u8 x17, V.int u8 x18, V.int u8 x19]]
def Ei (n0 : Nat) (f0 : FnV) (n2 : Nat) (f2 : FnV) (n4 : Nat) (f4 : FnV) (n6 : Nat) (f6 : FnV) (x8 x9 x10 x11 x12 x13 x14 x15 x16 x17 x18 x19 : Int) (cx : List Cx) : Lp JJ := lpT (atT (rl7 n0 f0 n2 f2 n4 f4 n6 f6 x8 x9 x10 x11 x12 x13 x14 x15 x16 x17 x18 x19) [])
def lp7 (n0 : Nat) (f0 : FnV) (n2 : Nat) (f2 : FnV) (n4 : Nat) (f4 : FnV) (n6 : Nat) (f6 : FnV) (x8 x9 x10 x11 x12 x13 x14 x15 x16 x17 x18 x19 : Int) : JJ -> Lp JJ
 | (0, cx) => Ei n0 f0 n2 f2 n4 f4 n6 f6 x8 x9 x10 x11 x12 x13 x14 x15 x16 x17 x18 x19 cx
 | (_, cx) => Ei n0 f0 n2 f2 n4 f4 n6 f6 x8 x9 x10 x11 x12 x13 x14 x15 x16 x17 x18 x19 cx
def D7 (n0 : Nat) (f0 : FnV) (n2 : Nat) (f2 : FnV) (n4 : Nat) (f4 : FnV) (n6 : Nat) (f6 : FnV) (x8 x9 x10 x11 x12 x13 x14 x15 x16 x17 x18 x19 : Int) : LD JJ S7 := ⟨id7, lp7 n0 f0 n2 f2 n4 f4 n6 f6 x8 x9 x10 x11 x12 x13 x14 x15 x16 x17 x18 x19, L8 n0 f0 n2 f2 n4 f4 n6 f6 x8 x9 x10 x11 x12 x13 x14 x15 x16 x17 x18 x19⟩
def st7 (n0 : Nat) (f0 : FnV) (n2 : Nat) (f2 : FnV) (n4 : Nat) (f4 : FnV) (n6 : Nat) (f6 : FnV) (x8 x9 x10 x11 x12 x13 x14 x15 x16 x17 x18 x19 : Int) : S7 -> RT S7
 | .L0 ia0 fa1 => .br (decide (ia0 < (↑n0 : Int))) (.ob (decide (0 <= ia0 /\ ia0 < (↑n0 : Int) /\ n0 <= n0)) (.ob (decide (ia0.toNat < n0)) (.ob (decide (0 <= ia0 /\ ia0 < (↑n0 : Int) /\ n0 <= n0)) (.ob (decide (ia0.toNat < n0)) (.next (iR 0 6 []) (S7.L0 (i64.wrap (ia0 + 1)) (bJ 4 (elV tyR fa1) ia0.toNat 3 [vi (i64.wrap (min (jv3 (fa1 ia0.toNat)) 30000 + i64.wrap x18))])) [⟨4, tyR, n0, bJ 4 (elV tyR fa1) ia0.toNat 3 [vi (i64.wrap (min (jv3 (fa1 ia0.toNat)) 30000 + i64.wrap x18))], fA rfl (al rfl _ _) rfl⟩, ⟨5, tyT, n2, elV tyT f2, al rfl _ _⟩]))))) (.br (decide (0 < (↑n2 : Int))) (.ob (decide ((↑n2 : Int) ≠ 0)) (.ob (decide (0 <= (i64.wrap x19).tmod (↑n2 : Int) /\ (i64.wrap x19).tmod (↑n2 : Int) < (↑n2 : Int) /\ n2 <= n2)) (.ob (decide (((i64.wrap x19).tmod (↑n2 : Int)).toNat < n2)) (.ob (decide (((i64.wrap x19).tmod (↑n2 : Int)).toNat < n2)) (.ob (decide (((i64.wrap x19).tmod (↑n2 : Int)).toNat < n2)) (.ob (decide (((i64.wrap x19).tmod (↑n2 : Int)).toNat < n2)) (.ob (decide (((i64.wrap x19).tmod (↑n2 : Int)).toNat < n2)) (.ob (decide (((i64.wrap x19).tmod (↑n2 : Int)).toNat < n2)) (.obv (fO n2 fun i => okE 5 (elV tyT f2 i)) (jC rfl _ _) (.ob (decide (n2 * 40 <= 140737488355328) && !Nat.beq 40 0) (.obt (.ob (decide (n2 <= n2 /\ (n2 + 1) * 40 <= 140737488355328) && !Nat.beq 40 0) (.obp ((∀ (i : Nat), i < n0 -> (sv (hdV (f0 i))).size <= (9223372036854775807 : Nat)) /\ ∀ (i : Nat), i < n6 -> (sv (hdV (f6 i))).size <= (9223372036854775807 : Nat)) (.obt (.obe ([Ty.agg [Ty.sl tyR, Ty.sl tyT, Ty.sl tyF, Ty.sl tyC]]) ([V.agg [V.sl n0 (elV tyR fa1), V.sl n2 (aM (bJ 5 (bJ 5 (bJ 5 (elV tyT f2) ((i64.wrap x19).tmod (↑n2 : Int)).toNat 2 [vi (i64.wrap (min (jv2 (f2 ((i64.wrap x19).tmod (↑n2 : Int)).toNat)) 20000 + i64.wrap x15))]) ((i64.wrap x19).tmod (↑n2 : Int)).toNat 4 [vi (i64.wrap (min (jv4 (f2 ((i64.wrap x19).tmod (↑n2 : Int)).toNat)) 1000 + i64.wrap x16))]) ((i64.wrap x19).tmod (↑n2 : Int)).toNat 3 [vi (max 0 (i64.wrap (min (jv3 (f2 ((i64.wrap x19).tmod (↑n2 : Int)).toNat)) 1000 - i64.wrap x17)))])), V.sl n4 (elV tyF f4), V.sl n6 (elV tyC f6)]]) (.obp ((∀ (i : Nat), i < n0 -> (sv (hdV (aM (elV tyR fa1) i))).size <= (9223372036854775807 : Nat)) /\ ∀ (i : Nat), i < n6 -> (sv (hdV (f6 i))).size <= (9223372036854775807 : Nat)) (.obt (.ob (n0.ble n0) (.ob (n2.ble n2) (.obe ([Ty.agg [Ty.sl tyR, Ty.sl tyT, Ty.sl tyF, Ty.sl tyC]]) ([V.agg [V.sl n0 (elV tyR f0), V.sl (n2 + 1) (aM (av n2 (elV tyT f2) fun x => [vi x9, vi x10, vi (i64.wrap (1 + i64.wrap x15)), vi 0, vi (i64.wrap (1 + i64.wrap x16))])), V.sl n4 (elV tyF f4), V.sl n6 (elV tyC f6)]]) (.obp ((∀ (i : Nat), i < n0 -> (sv (hdV (f0 i))).size <= (9223372036854775807 : Nat)) /\ ∀ (i : Nat), i < n6 -> (sv (hdV (f6 i))).size <= (9223372036854775807 : Nat)) (.obt (.ob ((n2 + 1).ble (n2 + 1)) (.br (dC n0 (elV tyR f0) n2 (elV tyT f2) n4 (elV tyF f4) n6 (elV tyC f6) != 0) (.obc (.obt (.ret (V.bool true)))) (.obp ((∀ (i : Nat), i < n0 -> (sv (hdV (f0 i))).size <= (9223372036854775807 : Nat)) /\ ∀ (i : Nat), i < n6 -> (sv (hdV (f6 i))).size <= (9223372036854775807 : Nat)) (.obt (.obp ((∀ (i : Nat), i < n0 -> (sv (hdV (f0 i))).size <= (9223372036854775807 : Nat)) /\ ∀ (i : Nat), i < n6 -> (sv (hdV (f6 i))).size <= (9223372036854775807 : Nat)) (.obt (.obp ((∀ (i : Nat), i < n0 -> (sv (hdV (f0 i))).size <= (9223372036854775807 : Nat)) /\ ∀ (i : Nat), i < n6 -> (sv (hdV (f6 i))).size <= (9223372036854775807 : Nat)) (.obt (.obp ((∀ (i : Nat), i < n0 -> (sv (hdV (f0 i))).size <= (9223372036854775807 : Nat)) /\ ∀ (i : Nat), i < n6 -> (sv (hdV (f6 i))).size <= (9223372036854775807 : Nat)) (.obt (.br (dC n0 (elV tyR fa1) n2 (aM (bJ 5 (bJ 5 (bJ 5 (elV tyT f2) ((i64.wrap x19).tmod (↑n2 : Int)).toNat 2 [vi (i64.wrap (min (jv2 (f2 ((i64.wrap x19).tmod (↑n2 : Int)).toNat)) 20000 + i64.wrap x15))]) ((i64.wrap x19).tmod (↑n2 : Int)).toNat 4 [vi (i64.wrap (min (jv4 (f2 ((i64.wrap x19).tmod (↑n2 : Int)).toNat)) 1000 + i64.wrap x16))]) ((i64.wrap x19).tmod (↑n2 : Int)).toNat 3 [vi (max 0 (i64.wrap (min (jv3 (f2 ((i64.wrap x19).tmod (↑n2 : Int)).toNat)) 1000 - i64.wrap x17)))])) n4 (elV tyF f4) n6 (elV tyC f6) == 0) (.obe ([Ty.agg [Ty.sl tyR, Ty.sl tyT, Ty.sl tyF, Ty.sl tyC], Ty.int i64, Ty.int i64, Ty.int i64]) ([V.agg [V.sl n0 (elV tyR fa1), V.sl n2 (aM (bJ 5 (bJ 5 (bJ 5 (elV tyT f2) ((i64.wrap x19).tmod (↑n2 : Int)).toNat 2 [vi (i64.wrap (min (jv2 (f2 ((i64.wrap x19).tmod (↑n2 : Int)).toNat)) 20000 + i64.wrap x15))]) ((i64.wrap x19).tmod (↑n2 : Int)).toNat 4 [vi (i64.wrap (min (jv4 (f2 ((i64.wrap x19).tmod (↑n2 : Int)).toNat)) 1000 + i64.wrap x16))]) ((i64.wrap x19).tmod (↑n2 : Int)).toNat 3 [vi (max 0 (i64.wrap (min (jv3 (f2 ((i64.wrap x19).tmod (↑n2 : Int)).toNat)) 1000 - i64.wrap x17)))])), V.sl n4 (elV tyF f4), V.sl n6 (elV tyC f6)], vi x8, vi x9, vi x10]) (.obp ((∀ (i : Nat), i < n0 -> (sv (hdV (aM (elV tyR fa1) i))).size <= (9223372036854775807 : Nat)) /\ ∀ (i : Nat), i < n6 -> (sv (hdV (f6 i))).size <= (9223372036854775807 : Nat)) (.obt (.ob (n0.ble n0) (.ob (n2.ble n2) (.obe ([Ty.agg [Ty.sl tyR, Ty.sl tyT, Ty.sl tyF, Ty.sl tyC], Ty.int i64, Ty.agg tp4]) ([V.agg [V.sl n0 (elV tyR fa1), V.sl n2 (aM (bJ 5 (bJ 5 (bJ 5 (elV tyT f2) ((i64.wrap x19).tmod (↑n2 : Int)).toNat 2 [vi (i64.wrap (min (jv2 (f2 ((i64.wrap x19).tmod (↑n2 : Int)).toNat)) 20000 + i64.wrap x15))]) ((i64.wrap x19).tmod (↑n2 : Int)).toNat 4 [vi (i64.wrap (min (jv4 (f2 ((i64.wrap x19).tmod (↑n2 : Int)).toNat)) 1000 + i64.wrap x16))]) ((i64.wrap x19).tmod (↑n2 : Int)).toNat 3 [vi (max 0 (i64.wrap (min (jv3 (f2 ((i64.wrap x19).tmod (↑n2 : Int)).toNat)) 1000 - i64.wrap x17)))])), V.sl n4 (elV tyF f4), V.sl n6 (elV tyC f6)], vi x8, V.agg [vi x11, vi x12, vi x13, vi x14]]) (.obp ((∀ (i : Nat), i < n0 -> (sv (hdV (aM (elV tyR fa1) i))).size <= (9223372036854775807 : Nat)) /\ ∀ (i : Nat), i < n6 -> (sv (hdV (f6 i))).size <= (9223372036854775807 : Nat)) (.obt (.ob (n0.ble n0) (.ob (n2.ble n2) (.obi (.obi (.obi (.obi (.obi (.obi (.obi (.obi (.obi (.obi (.obi (.obi (.obi (.obi (.br (bif bif dS n0 (elV tyR f0) n2 (elV tyT f2) n4 (elV tyF f4) n6 (elV tyC f6) x8 x9 x10 != dS n0 (elV tyR fa1) n2 (aM (bJ 5 (bJ 5 (bJ 5 (elV tyT f2) ((i64.wrap x19).tmod (↑n2 : Int)).toNat 2 [vi (i64.wrap (min (jv2 (f2 ((i64.wrap x19).tmod (↑n2 : Int)).toNat)) 20000 + i64.wrap x15))]) ((i64.wrap x19).tmod (↑n2 : Int)).toNat 4 [vi (i64.wrap (min (jv4 (f2 ((i64.wrap x19).tmod (↑n2 : Int)).toNat)) 1000 + i64.wrap x16))]) ((i64.wrap x19).tmod (↑n2 : Int)).toNat 3 [vi (max 0 (i64.wrap (min (jv3 (f2 ((i64.wrap x19).tmod (↑n2 : Int)).toNat)) 1000 - i64.wrap x17)))])) n4 (elV tyF f4) n6 (elV tyC f6) x8 x9 x10 then true else bif decide (0 <= bm n0 (elV tyR f0) n2 (elV tyT f2) n4 (elV tyF f4) n6 (elV tyC f6) x8 x9 x10) then bif decide (bm n0 (elV tyR fa1) n2 (aM (bJ 5 (bJ 5 (bJ 5 (elV tyT f2) ((i64.wrap x19).tmod (↑n2 : Int)).toNat 2 [vi (i64.wrap (min (jv2 (f2 ((i64.wrap x19).tmod (↑n2 : Int)).toNat)) 20000 + i64.wrap x15))]) ((i64.wrap x19).tmod (↑n2 : Int)).toNat 4 [vi (i64.wrap (min (jv4 (f2 ((i64.wrap x19).tmod (↑n2 : Int)).toNat)) 1000 + i64.wrap x16))]) ((i64.wrap x19).tmod (↑n2 : Int)).toNat 3 [vi (max 0 (i64.wrap (min (jv3 (f2 ((i64.wrap x19).tmod (↑n2 : Int)).toNat)) 1000 - i64.wrap x17)))])) n4 (elV tyF f4) n6 (elV tyC f6) x8 x9 x10 < 0) then true else decide (bm n0 (elV tyR f0) n2 (elV tyT f2) n4 (elV tyF f4) n6 (elV tyC f6) x8 x9 x10 < bm n0 (elV tyR fa1) n2 (aM (bJ 5 (bJ 5 (bJ 5 (elV tyT f2) ((i64.wrap x19).tmod (↑n2 : Int)).toNat 2 [vi (i64.wrap (min (jv2 (f2 ((i64.wrap x19).tmod (↑n2 : Int)).toNat)) 20000 + i64.wrap x15))]) ((i64.wrap x19).tmod (↑n2 : Int)).toNat 4 [vi (i64.wrap (min (jv4 (f2 ((i64.wrap x19).tmod (↑n2 : Int)).toNat)) 1000 + i64.wrap x16))]) ((i64.wrap x19).tmod (↑n2 : Int)).toNat 3 [vi (max 0 (i64.wrap (min (jv3 (f2 ((i64.wrap x19).tmod (↑n2 : Int)).toNat)) 1000 - i64.wrap x17)))])) n4 (elV tyF f4) n6 (elV tyC f6) x8 x9 x10) else false then true else decide (bL n0 (elV tyR fa1) n2 (aM (bJ 5 (bJ 5 (bJ 5 (elV tyT f2) ((i64.wrap x19).tmod (↑n2 : Int)).toNat 2 [vi (i64.wrap (min (jv2 (f2 ((i64.wrap x19).tmod (↑n2 : Int)).toNat)) 20000 + i64.wrap x15))]) ((i64.wrap x19).tmod (↑n2 : Int)).toNat 4 [vi (i64.wrap (min (jv4 (f2 ((i64.wrap x19).tmod (↑n2 : Int)).toNat)) 1000 + i64.wrap x16))]) ((i64.wrap x19).tmod (↑n2 : Int)).toNat 3 [vi (max 0 (i64.wrap (min (jv3 (f2 ((i64.wrap x19).tmod (↑n2 : Int)).toNat)) 1000 - i64.wrap x17)))])) n4 (elV tyF f4) n6 (elV tyC f6) x8 x11 x12 x13 x14 < bL n0 (elV tyR f0) n2 (elV tyT f2) n4 (elV tyF f4) n6 (elV tyC f6) x8 x11 x12 x13 x14)) (.ret (V.kb false)) (.obe ([Ty.agg [Ty.sl tyR, Ty.sl tyT, Ty.sl tyF, Ty.sl tyC], Ty.int i64, Ty.int i64, Ty.int i64]) ([V.agg [V.sl n0 (elV tyR fa1), V.sl n2 (aM (bJ 5 (bJ 5 (bJ 5 (elV tyT f2) ((i64.wrap x19).tmod (↑n2 : Int)).toNat 2 [vi (i64.wrap (min (jv2 (f2 ((i64.wrap x19).tmod (↑n2 : Int)).toNat)) 20000 + i64.wrap x15))]) ((i64.wrap x19).tmod (↑n2 : Int)).toNat 4 [vi (i64.wrap (min (jv4 (f2 ((i64.wrap x19).tmod (↑n2 : Int)).toNat)) 1000 + i64.wrap x16))]) ((i64.wrap x19).tmod (↑n2 : Int)).toNat 3 [vi (max 0 (i64.wrap (min (jv3 (f2 ((i64.wrap x19).tmod (↑n2 : Int)).toNat)) 1000 - i64.wrap x17)))])), V.sl n4 (elV tyF f4), V.sl n6 (elV tyC f6)], vi x8, vi x9, vi x10]) (.obp ((∀ (i : Nat), i < n0 -> (sv (hdV (aM (elV tyR fa1) i))).size <= (9223372036854775807 : Nat)) /\ ∀ (i : Nat), i < n6 -> (sv (hdV (f6 i))).size <= (9223372036854775807 : Nat)) (.obt (.ob (n0.ble n0) (.ob (n2.ble n2) (.obe ([Ty.agg [Ty.sl tyR, Ty.sl tyT, Ty.sl tyF, Ty.sl tyC], Ty.int i64, Ty.agg tp4]) ([V.agg [V.sl n0 (elV tyR fa1), V.sl n2 (aM (bJ 5 (bJ 5 (bJ 5 (elV tyT f2) ((i64.wrap x19).tmod (↑n2 : Int)).toNat 2 [vi (i64.wrap (min (jv2 (f2 ((i64.wrap x19).tmod (↑n2 : Int)).toNat)) 20000 + i64.wrap x15))]) ((i64.wrap x19).tmod (↑n2 : Int)).toNat 4 [vi (i64.wrap (min (jv4 (f2 ((i64.wrap x19).tmod (↑n2 : Int)).toNat)) 1000 + i64.wrap x16))]) ((i64.wrap x19).tmod (↑n2 : Int)).toNat 3 [vi (max 0 (i64.wrap (min (jv3 (f2 ((i64.wrap x19).tmod (↑n2 : Int)).toNat)) 1000 - i64.wrap x17)))])), V.sl n4 (elV tyF f4), V.sl n6 (elV tyC f6)], vi x8, V.agg [vi x11, vi x12, vi x13, vi x14]]) (.obp ((∀ (i : Nat), i < n0 -> (sv (hdV (aM (elV tyR fa1) i))).size <= (9223372036854775807 : Nat)) /\ ∀ (i : Nat), i < n6 -> (sv (hdV (f6 i))).size <= (9223372036854775807 : Nat)) (.obt (.ob (n0.ble n0) (.ob (n2.ble n2) (.obi (.obi (.obi (.obi (.obi (.obi (.obi (.obi (.obi (.obi (.obi (.br (bif bif bif iJ n0 (elV tyR fa1) n2 (aM (bJ 5 (bJ 5 (bJ 5 (elV tyT f2) ((i64.wrap x19).tmod (↑n2 : Int)).toNat 2 [vi (i64.wrap (min (jv2 (f2 ((i64.wrap x19).tmod (↑n2 : Int)).toNat)) 20000 + i64.wrap x15))]) ((i64.wrap x19).tmod (↑n2 : Int)).toNat 4 [vi (i64.wrap (min (jv4 (f2 ((i64.wrap x19).tmod (↑n2 : Int)).toNat)) 1000 + i64.wrap x16))]) ((i64.wrap x19).tmod (↑n2 : Int)).toNat 3 [vi (max 0 (i64.wrap (min (jv3 (f2 ((i64.wrap x19).tmod (↑n2 : Int)).toNat)) 1000 - i64.wrap x17)))])) n4 (elV tyF f4) n6 (elV tyC f6) x8 x9 x10 != iJ n0 (elV tyR f0) n2 (elV tyT f2) n4 (elV tyF f4) n6 (elV tyC f6) x8 x9 x10 then true else iF n0 (elV tyR fa1) n2 (aM (bJ 5 (bJ 5 (bJ 5 (elV tyT f2) ((i64.wrap x19).tmod (↑n2 : Int)).toNat 2 [vi (i64.wrap (min (jv2 (f2 ((i64.wrap x19).tmod (↑n2 : Int)).toNat)) 20000 + i64.wrap x15))]) ((i64.wrap x19).tmod (↑n2 : Int)).toNat 4 [vi (i64.wrap (min (jv4 (f2 ((i64.wrap x19).tmod (↑n2 : Int)).toNat)) 1000 + i64.wrap x16))]) ((i64.wrap x19).tmod (↑n2 : Int)).toNat 3 [vi (max 0 (i64.wrap (min (jv3 (f2 ((i64.wrap x19).tmod (↑n2 : Int)).toNat)) 1000 - i64.wrap x17)))])) n4 (elV tyF f4) n6 (elV tyC f6) x8 x11 x12 x13 x14 != iF n0 (elV tyR f0) n2 (elV tyT f2) n4 (elV tyF f4) n6 (elV tyC f6) x8 x11 x12 x13 x14 then true else bif gK n0 (elV tyR f0) n2 (elV tyT f2) n4 (elV tyF f4) n6 (elV tyC f6) x8 x9 x10 then !gK n0 (elV tyR fa1) n2 (aM (bJ 5 (bJ 5 (bJ 5 (elV tyT f2) ((i64.wrap x19).tmod (↑n2 : Int)).toNat 2 [vi (i64.wrap (min (jv2 (f2 ((i64.wrap x19).tmod (↑n2 : Int)).toNat)) 20000 + i64.wrap x15))]) ((i64.wrap x19).tmod (↑n2 : Int)).toNat 4 [vi (i64.wrap (min (jv4 (f2 ((i64.wrap x19).tmod (↑n2 : Int)).toNat)) 1000 + i64.wrap x16))]) ((i64.wrap x19).tmod (↑n2 : Int)).toNat 3 [vi (max 0 (i64.wrap (min (jv3 (f2 ((i64.wrap x19).tmod (↑n2 : Int)).toNat)) 1000 - i64.wrap x17)))])) n4 (elV tyF f4) n6 (elV tyC f6) x8 x9 x10 else false then true else decide (fG n0 (elV tyR fa1) n2 (aM (bJ 5 (bJ 5 (bJ 5 (elV tyT f2) ((i64.wrap x19).tmod (↑n2 : Int)).toNat 2 [vi (i64.wrap (min (jv2 (f2 ((i64.wrap x19).tmod (↑n2 : Int)).toNat)) 20000 + i64.wrap x15))]) ((i64.wrap x19).tmod (↑n2 : Int)).toNat 4 [vi (i64.wrap (min (jv4 (f2 ((i64.wrap x19).tmod (↑n2 : Int)).toNat)) 1000 + i64.wrap x16))]) ((i64.wrap x19).tmod (↑n2 : Int)).toNat 3 [vi (max 0 (i64.wrap (min (jv3 (f2 ((i64.wrap x19).tmod (↑n2 : Int)).toNat)) 1000 - i64.wrap x17)))])) n4 (elV tyF f4) n6 (elV tyC f6) x8 x11 x12 x13 x14 < fG n0 (elV tyR f0) n2 (elV tyT f2) n4 (elV tyF f4) n6 (elV tyC f6) x8 x11 x12 x13 x14)) (.ret (V.kb false)) (.br (dC n0 (elV tyR f0) (n2 + 1) (aM (av n2 (elV tyT f2) fun x => [vi x9, vi x10, vi (i64.wrap (1 + i64.wrap x15)), vi 0, vi (i64.wrap (1 + i64.wrap x16))])) n4 (elV tyF f4) n6 (elV tyC f6) == 0) (.obe ([Ty.agg [Ty.sl tyR, Ty.sl tyT, Ty.sl tyF, Ty.sl tyC], Ty.int i64, Ty.int i64, Ty.int i64]) ([V.agg [V.sl n0 (elV tyR f0), V.sl (n2 + 1) (aM (av n2 (elV tyT f2) fun x => [vi x9, vi x10, vi (i64.wrap (1 + i64.wrap x15)), vi 0, vi (i64.wrap (1 + i64.wrap x16))])), V.sl n4 (elV tyF f4), V.sl n6 (elV tyC f6)], vi x8, vi x9, vi x10]) (.obp ((∀ (i : Nat), i < n0 -> (sv (hdV (f0 i))).size <= (9223372036854775807 : Nat)) /\ ∀ (i : Nat), i < n6 -> (sv (hdV (f6 i))).size <= (9223372036854775807 : Nat)) (.obt (.ob ((n2 + 1).ble (n2 + 1)) (.obe ([Ty.agg [Ty.sl tyR, Ty.sl tyT, Ty.sl tyF, Ty.sl tyC], Ty.int i64, Ty.agg tp4]) ([V.agg [V.sl n0 (elV tyR f0), V.sl (n2 + 1) (aM (av n2 (elV tyT f2) fun x => [vi x9, vi x10, vi (i64.wrap (1 + i64.wrap x15)), vi 0, vi (i64.wrap (1 + i64.wrap x16))])), V.sl n4 (elV tyF f4), V.sl n6 (elV tyC f6)], vi x8, V.agg [vi x11, vi x12, vi x13, vi x14]]) (.obp ((∀ (i : Nat), i < n0 -> (sv (hdV (f0 i))).size <= (9223372036854775807 : Nat)) /\ ∀ (i : Nat), i < n6 -> (sv (hdV (f6 i))).size <= (9223372036854775807 : Nat)) (.obt (.ob ((n2 + 1).ble (n2 + 1)) (.obi (.obi (.obi (.obi (.obi (.obi (.obi (.obi (.obi (.obi (.br (bif bif dS n0 (elV tyR f0) n2 (elV tyT f2) n4 (elV tyF f4) n6 (elV tyC f6) x8 x9 x10 != dS n0 (elV tyR f0) (n2 + 1) (aM (av n2 (elV tyT f2) fun x => [vi x9, vi x10, vi (i64.wrap (1 + i64.wrap x15)), vi 0, vi (i64.wrap (1 + i64.wrap x16))])) n4 (elV tyF f4) n6 (elV tyC f6) x8 x9 x10 then true else bif decide (0 <= bm n0 (elV tyR f0) n2 (elV tyT f2) n4 (elV tyF f4) n6 (elV tyC f6) x8 x9 x10) then bm n0 (elV tyR f0) (n2 + 1) (aM (av n2 (elV tyT f2) fun x => [vi x9, vi x10, vi (i64.wrap (1 + i64.wrap x15)), vi 0, vi (i64.wrap (1 + i64.wrap x16))])) n4 (elV tyF f4) n6 (elV tyC f6) x8 x9 x10 != bm n0 (elV tyR f0) n2 (elV tyT f2) n4 (elV tyF f4) n6 (elV tyC f6) x8 x9 x10 else false then true else decide (bL n0 (elV tyR f0) (n2 + 1) (aM (av n2 (elV tyT f2) fun x => [vi x9, vi x10, vi (i64.wrap (1 + i64.wrap x15)), vi 0, vi (i64.wrap (1 + i64.wrap x16))])) n4 (elV tyF f4) n6 (elV tyC f6) x8 x11 x12 x13 x14 < bL n0 (elV tyR f0) n2 (elV tyT f2) n4 (elV tyF f4) n6 (elV tyC f6) x8 x11 x12 x13 x14)) (.ret (V.kb false)) (.obc (.obt (.ret (V.bool true))))))))))))))))))))))) (.obc (.obt (.ret (V.bool true)))))))))))))))))))))))))))))))))))))))))))))))))))) (.br (dC n0 (elV tyR f0) (n2 + 1) (aM (av n2 (elV tyT f2) fun x => [vi x9, vi x10, vi (i64.wrap (1 + i64.wrap x15)), vi 0, vi (i64.wrap (1 + i64.wrap x16))])) n4 (elV tyF f4) n6 (elV tyC f6) == 0) (.obe ([Ty.agg [Ty.sl tyR, Ty.sl tyT, Ty.sl tyF, Ty.sl tyC], Ty.int i64, Ty.int i64, Ty.int i64]) ([V.agg [V.sl n0 (elV tyR f0), V.sl (n2 + 1) (aM (av n2 (elV tyT f2) fun x => [vi x9, vi x10, vi (i64.wrap (1 + i64.wrap x15)), vi 0, vi (i64.wrap (1 + i64.wrap x16))])), V.sl n4 (elV tyF f4), V.sl n6 (elV tyC f6)], vi x8, vi x9, vi x10]) (.obp ((∀ (i : Nat), i < n0 -> (sv (hdV (f0 i))).size <= (9223372036854775807 : Nat)) /\ ∀ (i : Nat), i < n6 -> (sv (hdV (f6 i))).size <= (9223372036854775807 : Nat)) (.obt (.ob ((n2 + 1).ble (n2 + 1)) (.obe ([Ty.agg [Ty.sl tyR, Ty.sl tyT, Ty.sl tyF, Ty.sl tyC], Ty.int i64, Ty.agg tp4]) ([V.agg [V.sl n0 (elV tyR f0), V.sl (n2 + 1) (aM (av n2 (elV tyT f2) fun x => [vi x9, vi x10, vi (i64.wrap (1 + i64.wrap x15)), vi 0, vi (i64.wrap (1 + i64.wrap x16))])), V.sl n4 (elV tyF f4), V.sl n6 (elV tyC f6)], vi x8, V.agg [vi x11, vi x12, vi x13, vi x14]]) (.obp ((∀ (i : Nat), i < n0 -> (sv (hdV (f0 i))).size <= (9223372036854775807 : Nat)) /\ ∀ (i : Nat), i < n6 -> (sv (hdV (f6 i))).size <= (9223372036854775807 : Nat)) (.obt (.ob ((n2 + 1).ble (n2 + 1)) (.obi (.obi (.obi (.obi (.obi (.obi (.obi (.obi (.obi (.obi (.br (bif bif dS n0 (elV tyR f0) n2 (elV tyT f2) n4 (elV tyF f4) n6 (elV tyC f6) x8 x9 x10 != dS n0 (elV tyR f0) (n2 + 1) (aM (av n2 (elV tyT f2) fun x => [vi x9, vi x10, vi (i64.wrap (1 + i64.wrap x15)), vi 0, vi (i64.wrap (1 + i64.wrap x16))])) n4 (elV tyF f4) n6 (elV tyC f6) x8 x9 x10 then true else bif decide (0 <= bm n0 (elV tyR f0) n2 (elV tyT f2) n4 (elV tyF f4) n6 (elV tyC f6) x8 x9 x10) then bm n0 (elV tyR f0) (n2 + 1) (aM (av n2 (elV tyT f2) fun x => [vi x9, vi x10, vi (i64.wrap (1 + i64.wrap x15)), vi 0, vi (i64.wrap (1 + i64.wrap x16))])) n4 (elV tyF f4) n6 (elV tyC f6) x8 x9 x10 != bm n0 (elV tyR f0) n2 (elV tyT f2) n4 (elV tyF f4) n6 (elV tyC f6) x8 x9 x10 else false then true else decide (bL n0 (elV tyR f0) (n2 + 1) (aM (av n2 (elV tyT f2) fun x => [vi x9, vi x10, vi (i64.wrap (1 + i64.wrap x15)), vi 0, vi (i64.wrap (1 + i64.wrap x16))])) n4 (elV tyF f4) n6 (elV tyC f6) x8 x11 x12 x13 x14 < bL n0 (elV tyR f0) n2 (elV tyT f2) n4 (elV tyF f4) n6 (elV tyC f6) x8 x11 x12 x13 x14)) (.ret (V.kb false)) (.obc (.obt (.ret (V.bool true))))))))))))))))))))))) (.obc (.obt (.ret (V.bool true)))))))))))))))))))))))))))))))))))))) (.obv (fO n2 fun i => okE 5 (elV tyT f2 i)) (jC rfl _ _) (.ob (decide (n2 * 40 <= 140737488355328) && !Nat.beq 40 0) (.obt (.ob (decide (n2 <= n2 /\ (n2 + 1) * 40 <= 140737488355328) && !Nat.beq 40 0) (.obp ((∀ (i : Nat), i < n0 -> (sv (hdV (f0 i))).size <= (9223372036854775807 : Nat)) /\ ∀ (i : Nat), i < n6 -> (sv (hdV (f6 i))).size <= (9223372036854775807 : Nat)) (.obt (.obp ((∀ (i : Nat), i < n0 -> (sv (hdV (aM (elV tyR fa1) i))).size <= (9223372036854775807 : Nat)) /\ ∀ (i : Nat), i < n6 -> (sv (hdV (f6 i))).size <= (9223372036854775807 : Nat)) (.obt (.ob (n0.ble n0) (.ob (n2.ble n2) (.obe ([Ty.agg [Ty.sl tyR, Ty.sl tyT, Ty.sl tyF, Ty.sl tyC]]) ([V.agg [V.sl n0 (elV tyR f0), V.sl (n2 + 1) (aM (av n2 (elV tyT f2) fun x => [vi x9, vi x10, vi (i64.wrap (1 + i64.wrap x15)), vi 0, vi (i64.wrap (1 + i64.wrap x16))])), V.sl n4 (elV tyF f4), V.sl n6 (elV tyC f6)]]) (.obp ((∀ (i : Nat), i < n0 -> (sv (hdV (f0 i))).size <= (9223372036854775807 : Nat)) /\ ∀ (i : Nat), i < n6 -> (sv (hdV (f6 i))).size <= (9223372036854775807 : Nat)) (.obt (.ob ((n2 + 1).ble (n2 + 1)) (.br (dC n0 (elV tyR f0) n2 (elV tyT f2) n4 (elV tyF f4) n6 (elV tyC f6) != 0) (.obc (.obt (.ret (V.bool true)))) (.obp ((∀ (i : Nat), i < n0 -> (sv (hdV (f0 i))).size <= (9223372036854775807 : Nat)) /\ ∀ (i : Nat), i < n6 -> (sv (hdV (f6 i))).size <= (9223372036854775807 : Nat)) (.obt (.obp ((∀ (i : Nat), i < n0 -> (sv (hdV (f0 i))).size <= (9223372036854775807 : Nat)) /\ ∀ (i : Nat), i < n6 -> (sv (hdV (f6 i))).size <= (9223372036854775807 : Nat)) (.obt (.obp ((∀ (i : Nat), i < n0 -> (sv (hdV (f0 i))).size <= (9223372036854775807 : Nat)) /\ ∀ (i : Nat), i < n6 -> (sv (hdV (f6 i))).size <= (9223372036854775807 : Nat)) (.obt (.obp ((∀ (i : Nat), i < n0 -> (sv (hdV (f0 i))).size <= (9223372036854775807 : Nat)) /\ ∀ (i : Nat), i < n6 -> (sv (hdV (f6 i))).size <= (9223372036854775807 : Nat)) (.obt (.br (dC n0 (elV tyR fa1) n2 (elV tyT f2) n4 (elV tyF f4) n6 (elV tyC f6) == 0) (.obp ((∀ (i : Nat), i < n0 -> (sv (hdV (aM (elV tyR fa1) i))).size <= (9223372036854775807 : Nat)) /\ ∀ (i : Nat), i < n6 -> (sv (hdV (f6 i))).size <= (9223372036854775807 : Nat)) (.obt (.ob (n0.ble n0) (.ob (n2.ble n2) (.obp ((∀ (i : Nat), i < n0 -> (sv (hdV (aM (elV tyR fa1) i))).size <= (9223372036854775807 : Nat)) /\ ∀ (i : Nat), i < n6 -> (sv (hdV (f6 i))).size <= (9223372036854775807 : Nat)) (.obt (.ob (n0.ble n0) (.ob (n2.ble n2) (.obi (.obi (.obi (.obi (.obi (.obi (.obi (.obi (.obi (.obi (.obi (.obi (.obi (.obi (.br (bif bif dS n0 (elV tyR f0) n2 (elV tyT f2) n4 (elV tyF f4) n6 (elV tyC f6) x8 x9 x10 != dS n0 (elV tyR fa1) n2 (elV tyT f2) n4 (elV tyF f4) n6 (elV tyC f6) x8 x9 x10 then true else bif decide (0 <= bm n0 (elV tyR f0) n2 (elV tyT f2) n4 (elV tyF f4) n6 (elV tyC f6) x8 x9 x10) then bif decide (bm n0 (elV tyR fa1) n2 (elV tyT f2) n4 (elV tyF f4) n6 (elV tyC f6) x8 x9 x10 < 0) then true else decide (bm n0 (elV tyR f0) n2 (elV tyT f2) n4 (elV tyF f4) n6 (elV tyC f6) x8 x9 x10 < bm n0 (elV tyR fa1) n2 (elV tyT f2) n4 (elV tyF f4) n6 (elV tyC f6) x8 x9 x10) else false then true else decide (bL n0 (elV tyR fa1) n2 (elV tyT f2) n4 (elV tyF f4) n6 (elV tyC f6) x8 x11 x12 x13 x14 < bL n0 (elV tyR f0) n2 (elV tyT f2) n4 (elV tyF f4) n6 (elV tyC f6) x8 x11 x12 x13 x14)) (.ret (V.kb false)) (.obp ((∀ (i : Nat), i < n0 -> (sv (hdV (aM (elV tyR fa1) i))).size <= (9223372036854775807 : Nat)) /\ ∀ (i : Nat), i < n6 -> (sv (hdV (f6 i))).size <= (9223372036854775807 : Nat)) (.obt (.ob (n0.ble n0) (.ob (n2.ble n2) (.obp ((∀ (i : Nat), i < n0 -> (sv (hdV (aM (elV tyR fa1) i))).size <= (9223372036854775807 : Nat)) /\ ∀ (i : Nat), i < n6 -> (sv (hdV (f6 i))).size <= (9223372036854775807 : Nat)) (.obt (.ob (n0.ble n0) (.ob (n2.ble n2) (.obi (.obi (.obi (.obi (.obi (.obi (.obi (.obi (.obi (.obi (.obi (.br (bif bif bif iJ n0 (elV tyR fa1) n2 (elV tyT f2) n4 (elV tyF f4) n6 (elV tyC f6) x8 x9 x10 != iJ n0 (elV tyR f0) n2 (elV tyT f2) n4 (elV tyF f4) n6 (elV tyC f6) x8 x9 x10 then true else iF n0 (elV tyR fa1) n2 (elV tyT f2) n4 (elV tyF f4) n6 (elV tyC f6) x8 x11 x12 x13 x14 != iF n0 (elV tyR f0) n2 (elV tyT f2) n4 (elV tyF f4) n6 (elV tyC f6) x8 x11 x12 x13 x14 then true else bif gK n0 (elV tyR f0) n2 (elV tyT f2) n4 (elV tyF f4) n6 (elV tyC f6) x8 x9 x10 then !gK n0 (elV tyR fa1) n2 (elV tyT f2) n4 (elV tyF f4) n6 (elV tyC f6) x8 x9 x10 else false then true else decide (fG n0 (elV tyR fa1) n2 (elV tyT f2) n4 (elV tyF f4) n6 (elV tyC f6) x8 x11 x12 x13 x14 < fG n0 (elV tyR f0) n2 (elV tyT f2) n4 (elV tyF f4) n6 (elV tyC f6) x8 x11 x12 x13 x14)) (.ret (V.kb false)) (.br (dC n0 (elV tyR f0) (n2 + 1) (aM (av n2 (elV tyT f2) fun x => [vi x9, vi x10, vi (i64.wrap (1 + i64.wrap x15)), vi 0, vi (i64.wrap (1 + i64.wrap x16))])) n4 (elV tyF f4) n6 (elV tyC f6) == 0) (.obe ([Ty.agg [Ty.sl tyR, Ty.sl tyT, Ty.sl tyF, Ty.sl tyC], Ty.int i64, Ty.int i64, Ty.int i64]) ([V.agg [V.sl n0 (elV tyR f0), V.sl (n2 + 1) (aM (av n2 (elV tyT f2) fun x => [vi x9, vi x10, vi (i64.wrap (1 + i64.wrap x15)), vi 0, vi (i64.wrap (1 + i64.wrap x16))])), V.sl n4 (elV tyF f4), V.sl n6 (elV tyC f6)], vi x8, vi x9, vi x10]) (.obp ((∀ (i : Nat), i < n0 -> (sv (hdV (f0 i))).size <= (9223372036854775807 : Nat)) /\ ∀ (i : Nat), i < n6 -> (sv (hdV (f6 i))).size <= (9223372036854775807 : Nat)) (.obt (.ob ((n2 + 1).ble (n2 + 1)) (.obe ([Ty.agg [Ty.sl tyR, Ty.sl tyT, Ty.sl tyF, Ty.sl tyC], Ty.int i64, Ty.agg tp4]) ([V.agg [V.sl n0 (elV tyR f0), V.sl (n2 + 1) (aM (av n2 (elV tyT f2) fun x => [vi x9, vi x10, vi (i64.wrap (1 + i64.wrap x15)), vi 0, vi (i64.wrap (1 + i64.wrap x16))])), V.sl n4 (elV tyF f4), V.sl n6 (elV tyC f6)], vi x8, V.agg [vi x11, vi x12, vi x13, vi x14]]) (.obp ((∀ (i : Nat), i < n0 -> (sv (hdV (f0 i))).size <= (9223372036854775807 : Nat)) /\ ∀ (i : Nat), i < n6 -> (sv (hdV (f6 i))).size <= (9223372036854775807 : Nat)) (.obt (.ob ((n2 + 1).ble (n2 + 1)) (.obi (.obi (.obi (.obi (.obi (.obi (.obi (.obi (.obi (.obi (.br (bif bif dS n0 (elV tyR f0) n2 (elV tyT f2) n4 (elV tyF f4) n6 (elV tyC f6) x8 x9 x10 != dS n0 (elV tyR f0) (n2 + 1) (aM (av n2 (elV tyT f2) fun x => [vi x9, vi x10, vi (i64.wrap (1 + i64.wrap x15)), vi 0, vi (i64.wrap (1 + i64.wrap x16))])) n4 (elV tyF f4) n6 (elV tyC f6) x8 x9 x10 then true else bif decide (0 <= bm n0 (elV tyR f0) n2 (elV tyT f2) n4 (elV tyF f4) n6 (elV tyC f6) x8 x9 x10) then bm n0 (elV tyR f0) (n2 + 1) (aM (av n2 (elV tyT f2) fun x => [vi x9, vi x10, vi (i64.wrap (1 + i64.wrap x15)), vi 0, vi (i64.wrap (1 + i64.wrap x16))])) n4 (elV tyF f4) n6 (elV tyC f6) x8 x9 x10 != bm n0 (elV tyR f0) n2 (elV tyT f2) n4 (elV tyF f4) n6 (elV tyC f6) x8 x9 x10 else false then true else decide (bL n0 (elV tyR f0) (n2 + 1) (aM (av n2 (elV tyT f2) fun x => [vi x9, vi x10, vi (i64.wrap (1 + i64.wrap x15)), vi 0, vi (i64.wrap (1 + i64.wrap x16))])) n4 (elV tyF f4) n6 (elV tyC f6) x8 x11 x12 x13 x14 < bL n0 (elV tyR f0) n2 (elV tyT f2) n4 (elV tyF f4) n6 (elV tyC f6) x8 x11 x12 x13 x14)) (.ret (V.kb false)) (.obc (.obt (.ret (V.bool true))))))))))))))))))))))) (.obc (.obt (.ret (V.bool true)))))))))))))))))))))))))))))))))))))))))))))))) (.br (dC n0 (elV tyR f0) (n2 + 1) (aM (av n2 (elV tyT f2) fun x => [vi x9, vi x10, vi (i64.wrap (1 + i64.wrap x15)), vi 0, vi (i64.wrap (1 + i64.wrap x16))])) n4 (elV tyF f4) n6 (elV tyC f6) == 0) (.obe ([Ty.agg [Ty.sl tyR, Ty.sl tyT, Ty.sl tyF, Ty.sl tyC], Ty.int i64, Ty.int i64, Ty.int i64]) ([V.agg [V.sl n0 (elV tyR f0), V.sl (n2 + 1) (aM (av n2 (elV tyT f2) fun x => [vi x9, vi x10, vi (i64.wrap (1 + i64.wrap x15)), vi 0, vi (i64.wrap (1 + i64.wrap x16))])), V.sl n4 (elV tyF f4), V.sl n6 (elV tyC f6)], vi x8, vi x9, vi x10]) (.obp ((∀ (i : Nat), i < n0 -> (sv (hdV (f0 i))).size <= (9223372036854775807 : Nat)) /\ ∀ (i : Nat), i < n6 -> (sv (hdV (f6 i))).size <= (9223372036854775807 : Nat)) (.obt (.ob ((n2 + 1).ble (n2 + 1)) (.obe ([Ty.agg [Ty.sl tyR, Ty.sl tyT, Ty.sl tyF, Ty.sl tyC], Ty.int i64, Ty.agg tp4]) ([V.agg [V.sl n0 (elV tyR f0), V.sl (n2 + 1) (aM (av n2 (elV tyT f2) fun x => [vi x9, vi x10, vi (i64.wrap (1 + i64.wrap x15)), vi 0, vi (i64.wrap (1 + i64.wrap x16))])), V.sl n4 (elV tyF f4), V.sl n6 (elV tyC f6)], vi x8, V.agg [vi x11, vi x12, vi x13, vi x14]]) (.obp ((∀ (i : Nat), i < n0 -> (sv (hdV (f0 i))).size <= (9223372036854775807 : Nat)) /\ ∀ (i : Nat), i < n6 -> (sv (hdV (f6 i))).size <= (9223372036854775807 : Nat)) (.obt (.ob ((n2 + 1).ble (n2 + 1)) (.obi (.obi (.obi (.obi (.obi (.obi (.obi (.obi (.obi (.obi (.br (bif bif dS n0 (elV tyR f0) n2 (elV tyT f2) n4 (elV tyF f4) n6 (elV tyC f6) x8 x9 x10 != dS n0 (elV tyR f0) (n2 + 1) (aM (av n2 (elV tyT f2) fun x => [vi x9, vi x10, vi (i64.wrap (1 + i64.wrap x15)), vi 0, vi (i64.wrap (1 + i64.wrap x16))])) n4 (elV tyF f4) n6 (elV tyC f6) x8 x9 x10 then true else bif decide (0 <= bm n0 (elV tyR f0) n2 (elV tyT f2) n4 (elV tyF f4) n6 (elV tyC f6) x8 x9 x10) then bm n0 (elV tyR f0) (n2 + 1) (aM (av n2 (elV tyT f2) fun x => [vi x9, vi x10, vi (i64.wrap (1 + i64.wrap x15)), vi 0, vi (i64.wrap (1 + i64.wrap x16))])) n4 (elV tyF f4) n6 (elV tyC f6) x8 x9 x10 != bm n0 (elV tyR f0) n2 (elV tyT f2) n4 (elV tyF f4) n6 (elV tyC f6) x8 x9 x10 else false then true else decide (bL n0 (elV tyR f0) (n2 + 1) (aM (av n2 (elV tyT f2) fun x => [vi x9, vi x10, vi (i64.wrap (1 + i64.wrap x15)), vi 0, vi (i64.wrap (1 + i64.wrap x16))])) n4 (elV tyF f4) n6 (elV tyC f6) x8 x11 x12 x13 x14 < bL n0 (elV tyR f0) n2 (elV tyT f2) n4 (elV tyF f4) n6 (elV tyC f6) x8 x11 x12 x13 x14)) (.ret (V.kb false)) (.obc (.obt (.ret (V.bool true))))))))))))))))))))))) (.obc (.obt (.ret (V.bool true))))))))))))))))))))))))))))))
def m7 (n0 : Nat) (f0 : FnV) (n2 : Nat) (f2 : FnV) (n4 : Nat) (f4 : FnV) (n6 : Nat) (f6 : FnV) (x8 x9 x10 x11 x12 x13 x14 x15 x16 x17 x18 x19 : Int) : RT S7 := .obv (fO n0 fun i => okE 4 (elV tyR f0 i)) (jC rfl _ _) (.ob (decide (n0 * 56 <= 140737488355328) && !Nat.beq 56 0) (.obv (fO n2 fun i => okE 5 (elV tyT f2 i)) (jC rfl _ _) (.ob (decide (n2 * 40 <= 140737488355328) && !Nat.beq 40 0) (.enter [some (some 3), some (some 2), some (some 1), some (some 0), some (some 5), some (some 7)] (S7.L0 (0) (elV tyR f0)) [⟨4, tyR, n0, elV tyR f0, al rfl _ _⟩, ⟨5, tyT, n2, elV tyT f2, al rfl _ _⟩]))))
theorem Lm (n0 : Nat) (f0 : FnV) (n2 : Nat) (f2 : FnV) (n4 : Nat) (f4 : FnV) (n6 : Nat) (f6 : FnV) (x8 x9 x10 x11 x12 x13 x14 x15 x16 x17 x18 x19 : Int) : jF B3 u0 (D7 n0 f0 n2 f2 n4 f4 n6 f6 x8 x9 x10 x11 x12 x13 x14 x15 x16 x17 x18 x19) (rl7 n0 f0 n2 f2 n4 f4 n6 f6 x8 x9 x10 x11 x12 x13 x14 x15 x16 x17 x18 x19) (m7 n0 f0 n2 f2 n4 f4 n6 f6 x8 x9 x10 x11 x12 x13 x14 x15 x16 x17 x18 x19) (st7 n0 f0 n2 f2 n4 f4 n6 f6 x8 x9 x10 x11 x12 x13 x14 x15 x16 x17 x18 x19) := ⟨⟨by kernel_rfl, by kernel_rfl⟩, fun s => by cases s <;> exact ⟨by kernel_rfl, by kernel_rfl⟩⟩
theorem fq (n : Nat) : Nat.ble n n = true := Nat.ble_eq_true_of_le (Nat.le_refl n)
def tU (f2 : FnV) (k : Nat) (x15 x16 x17 : Int) : Nat -> List V := aM (bJ 5 (bJ 5 (bJ 5 (elV tyT f2) k 2 [vi (i64.wrap (min (jv2 (f2 k)) 20000 + i64.wrap x15))]) k 4 [vi (i64.wrap (min (jv4 (f2 k)) 1000 + i64.wrap x16))]) k 3 [vi (max 0 (i64.wrap (min (jv3 (f2 k)) 1000 - i64.wrap x17)))])
theorem B9 (f2 : FnV) (k : Nat) (x15 x16 x17 : Int) (i : Nat) : tU f2 k x15 x16 x17 i = bif Nat.beq i k then [vi (jv0 (f2 k)), vi (jv1 (f2 k)), vi (i64.wrap (min (jv2 (f2 k)) 20000 + i64.wrap x15)), vi (max 0 (i64.wrap (min (jv3 (f2 k)) 1000 - i64.wrap x17))), vi (i64.wrap (min (jv4 (f2 k)) 1000 + i64.wrap x16))] else elV tyT f2 i := by
 unfold tU aM bJ
 cases hb : Nat.beq i k with
 | true =>
   have e := Nat.eq_of_beq_eq_true hb
   subst e
   rw [hb]; rfl
 | false => rfl
theorem Eo (f2 : FnV) (k : Nat) (x15 x16 x17 : Int) : elV tyT (tU f2 k x15 x16 x17) = tU f2 k x15 x16 x17 := funext fun i => by
 show ap tyT (tU f2 k x15 x16 x17 i) = _
 rw [B9]
 cases Nat.beq i k <;> rfl
theorem xq (p : List V) : Gt p p := ⟨rfl, rfl, Int.le_refl _, Int.le_refl _, Int.le_refl _⟩
theorem JV {f2 : Nat -> List V} {k : Nat} {x15 x16 x17 : Int} {i : Nat} (h1 : 0 <= x15 /\ x15 <= 255) (h2 : 0 <= x16 /\ x16 <= 255) (h3 : 0 <= x17 /\ x17 <= 255) (h : cT (elV tyT f2) i = 0) : Gt (elV tyT f2 i) (tU f2 k x15 x16 x17 i) := by
 rw [B9]
 cases hb : Nat.beq i k with
 | true =>
   have e := Nat.eq_of_beq_eq_true hb
   subst e
   obtain ⟨_, _, q1, q2, q3, q4⟩ := xL h
   have q1 : 1 <= jv2 (f2 i) /\ jv2 (f2 i) <= 20000 := q1
   have q2 : 0 <= jv3 (f2 i) := q2
   have q3 : jv3 (f2 i) < jv4 (f2 i) := q3
   have q4 : jv4 (f2 i) <= 1000 := q4
   refine ⟨rfl, rfl, ?_, ?_, ?_⟩
   ·show jv2 (f2 i) <= i64.wrap (min (jv2 (f2 i)) 20000 + i64.wrap x15)
    rw [aA (x := x15) (by omega) (by omega), aA (by omega) (by omega)]; omega
   ·show max 0 (i64.wrap (min (jv3 (f2 i)) 1000 - i64.wrap x17)) <= jv3 (f2 i)
    rw [aA (x := x17) (by omega) (by omega), aA (by omega) (by omega)]; omega
   ·show jv4 (f2 i) <= i64.wrap (min (jv4 (f2 i)) 1000 + i64.wrap x16)
    rw [aA (x := x16) (by omega) (by omega), aA (by omega) (by omega)]; omega
 | false => exact xq _
theorem BF {n2 : Nat} {f2 : Nat -> List V} {a b c d e : Int} (i : Nat) : aM (av n2 (elV tyT f2) fun _ => [vi a, vi b, vi c, vi d, vi e]) i = bif Nat.blt i n2 then elV tyT f2 i else [vi a, vi b, vi c, vi d, vi e] := by
 unfold aM av
 cases Nat.blt i n2 <;> rfl
theorem cw {n2 : Nat} {f2 : Nat -> List V} {a b c d e : Int} : elV tyT (aM (av n2 (elV tyT f2) fun _ => [vi a, vi b, vi c, vi d, vi e])) = aM (av n2 (elV tyT f2) fun _ => [vi a, vi b, vi c, vi d, vi e]) := funext fun i => by
 show ap tyT (aM _ i) = _
 rw [BF]
 cases Nat.blt i n2 <;> rfl
theorem xS {n2 : Nat} {f2 : Nat -> List V} {a b c d e : Int} {i : Nat} (hi : i < n2) : Sm (elV tyT f2 i) (aM (av n2 (elV tyT f2) fun _ => [vi a, vi b, vi c, vi d, vi e]) i) := by
 have hb : Nat.blt i n2 = true := Nat.ble_eq_true_of_le hi
 rw [BF, hb]
 exact ⟨rfl, rfl, rfl, rfl, rfl⟩
structure Wl (x : Int) (p q : List V) : Prop where
 s : sv (hdV q) = sv (hdV p)
 n : c5 (hdV (tlV (tlV q))) = c5 (hdV (tlV (tlV p)))
 w : jv3 q = i64.wrap (min (jv3 p) 30000 + i64.wrap x)
 p : ∀ j, ap tp2 (atV (hdV (tlV (tlV q))) j) = ap tp2 (atV (hdV (tlV (tlV p))) j)
theorem Ey {n0 : Nat} {f0 f : Nat -> List V} {n2 : Nat} {f2 : Nat -> List V} {n4 : Nat} {f4 : Nat -> List V} {n6 : Nat} {f6 : Nat -> List V} {j : Nat} {x : Int} (h : bt n0 (elV tyR f0) n2 (elV tyT f2) n4 (elV tyF f4) n6 (elV tyC f6) = 0) (hj : j < n0) (hx : 0 <= x /\ x <= 255) (w : Wl x (f0 j) (f j)) : Wd (elV tyR f0 j) (elV tyR f j) := by
 have hr := (jN h).rd j hj
 rw [show cR n0 (elV tyR f0) j = cR n0 f0 j by unfold cR; rw [dI]] at hr
 have h1 := (tv hr).w1
 have h2 := (tv hr).w2
 refine ⟨w.n, ?_, fun s => ?_⟩
 ·show jv3 (f0 j) <= jv3 (f j)
  rw [w.w, aA (x := x) (by omega) (by omega), aA (by omega) (by omega)]; omega
 ·show ap tp2 (ap tp2 (atV (hdV (tlV (tlV (f j)))) s)) = ap tp2 (ap tp2 (atV (hdV (tlV (tlV (f0 j)))) s))
  rw [bn, bn]; exact w.p s
theorem Jl {ts : List Ty} {ds : List V} (h : ap ts ds = ds) : gk ts ds [] = gi ts ds [] := by
 have := dH ts ds []
 rw [h] at this
 exact this
theorem fxO {ts : List Ty} {ds : List V} {n0 : Nat} {f0 : Nat -> List V} {n2 : Nat} {T : Nat -> List V} {n4 : Nat} {f4 : Nat -> List V} {n6 : Nat} {f6 : Nat -> List V} (hT : elV tyT T = T) (h : ap ts ds = ds) :
 gk (.agg [.sl tyR, .sl tyT, .sl tyF, .sl tyC] :: ts) (V.agg [V.sl n0 (elV tyR f0), V.sl n2 T, V.sl n4 (elV tyF f4), V.sl n6 (elV tyC f6)] :: ds) [] = gi (.agg [.sl tyR, .sl tyT, .sl tyF, .sl tyC] :: ts) (V.agg [V.sl n0 (elV tyR f0), V.sl n2 T, V.sl n4 (elV tyF f4), V.sl n6 (elV tyC f6)] :: ds) [] := by
 refine Jl ?_
 show V.agg [V.sl n0 (elV tyR (elV tyR f0)), V.sl n2 (elV tyT T), V.sl n4 (elV tyF (elV tyF f4)), V.sl n6 (elV tyC (elV tyC f6))] :: ap ts ds = _
 rw [h, hT, dI, dI, dI]
def Do (n0 : Nat) (x : Int) (f0 : FnV) (i : Nat) (f : Nat -> List V) : Prop := ∀ j, j < n0 -> (j < i -> Wl x (f0 j) (f j)) /\ (i <= j -> ap tyR (f j) = ap tyR (f0 j))
theorem KX {x : Int} {p q : List V} (h : Wl x p q) : Wl x p (ap tyR q) := ⟨h.s, h.n, h.w, fun j => by
 rw [← h.p j]
 exact bn tp2 _⟩
theorem Do.step {n0 : Nat} {x : Int} {f0 : Nat -> List V} {i : Nat} {f : Nat -> List V} (hi : i < n0) (h : Do n0 x f0 i f) :
 Do n0 x f0 (i + 1) (bJ 4 (elV tyR f) i 3 [vi (i64.wrap (min (jv3 (f i)) 30000 + i64.wrap x))]) := fun j hj => by
 unfold bJ
 by_cases e : j = i
 ·subst e
  refine ⟨fun _ => ?_, fun hc => absurd hc (by omega)⟩
  rw [Nat.beq_refl]
  have hv := (h j hj).2 (Nat.le_refl _)
  have e1 : sv (hdV (f j)) = sv (hdV (f0 j)) := by have := congrArg (fun l => sv (hdV l)) hv; exact this
  have e3 : c5 (hdV (tlV (tlV (f j)))) = c5 (hdV (tlV (tlV (f0 j)))) := by have := congrArg (fun l => c5 (hdV (tlV (tlV l)))) hv; exact this
  have e4 : jv3 (f j) = jv3 (f0 j) := by have := congrArg (fun l => jv3 l) hv; exact this
  have e5 : ∀ s, ap tp2 (atV (hdV (tlV (tlV (f j)))) s) = ap tp2 (atV (hdV (tlV (tlV (f0 j)))) s) := fun s => by have := congrArg (fun l => atV (hdV (tlV (tlV l))) s) hv; exact this
  refine ⟨e1, e3, ?_, fun s => ?_⟩
  ·rw [← e4]; rfl
  ·show ap tp2 (ap tp2 (atV (hdV (tlV (tlV (f j)))) s)) = _
   rw [bn]; exact e5 s
 ·have hb : Nat.beq j i = false := by
   cases hb : Nat.beq j i with
   | false => rfl
   | true => exact (e (Nat.eq_of_beq_eq_true hb)).elim
  rw [hb]
  refine ⟨fun hc => KX ((h j hj).1 (by omega)), fun hc => ?_⟩
  show ap tyR (ap tyR (f j)) = _
  rw [bn]; exact (h j hj).2 (by omega)
theorem J9 {n2 : Nat} {x : Int} (hx : 0 <= x /\ x <= 255) (hn : 0 < (n2 : Int)) : 0 <= (i64.wrap x).tmod (n2 : Int) /\ (i64.wrap x).tmod (n2 : Int) < (n2 : Int) := by
 rw [aA (x := x) (by omega) (by omega), Int.tmod_eq_emod_of_nonneg hx.1]
 exact ⟨Int.emod_nonneg _ (by omega), Int.emod_lt_of_pos _ hn⟩
theorem c7 (n0 : Nat) (f0 : FnV) (n2 : Nat) (f2 : FnV) (n4 : Nat) (f4 : FnV) (n6 : Nat) (f6 : FnV) (x8 x9 x10 x11 x12 x13 x14 x15 x16 x17 x18 x19 : Int) (hp : (cY n0 f0 /\ cY n6 f6) /\ n0 * 56 <= 140737488351232 /\ n2 * 40 <= 140737488351232 /\ (0 <= x15 /\ x15 <= 255) /\ (0 <= x16 /\ x16 <= 255) /\ (0 <= x17 /\ x17 <= 255) /\ (0 <= x18 /\ x18 <= 255) /\ (0 <= x19 /\ x19 <= 255)) : ∀ i, i <= n0 -> ∀ f, Do n0 x18 f0 i f -> Ev (st7 n0 f0 n2 f2 n4 f4 n6 f6 x8 x9 x10 x11 x12 x13 x14 x15 x16 x17 x18 x19) (.L0 (i : Int) f) (.bool true) := by
 have h9 := hp.2.1
 have hn2 := hp.2.2.1
 have hz := hp.1
 refine dM fun i hi ih f hI => Ev.of rfl ?_
 by_cases hlt : i < n0
 ·have ob1 : decide (0 <= (i : Int) /\ (i : Int) < (n0 : Int) /\ n0 <= n0) = true := dqt ⟨by omega, by omega, Nat.le_refl _⟩
  have ob2 : decide ((i : Int).toNat < n0) = true := dqt (by omega)
  refine cX (dqt (by omega)) (ac ob1 (ac ob2 (ac ob1 (ac ob2 (aR ?_)))))
  rw [yG hlt (by omega), Int.toNat_natCast]
  exact ih hlt _ (hI.step hlt)
 ·have e : i = n0 := by omega
  have hR : ∀ j, j < n0 -> Wl x18 (f0 j) (f j) := fun j hj => (hI j hj).1 (by omega)
  have hg : cY n0 f /\ cY n6 f6 := ⟨fun j hj => by rw [(hR j hj).s]; exact hz.1 j hj, hz.2⟩
  clear hI ih
  subst e
  have hk3 : (decide (n2 * 40 <= 140737488355328) && !Nat.beq 40 0) = true := by simp only [Bool.and_eq_true]; exact ⟨dqt (by omega), rfl⟩
  have hk4 : (decide (n2 <= n2 /\ (n2 + 1) * 40 <= 140737488355328) && !Nat.beq 40 0) = true := by simp only [Bool.and_eq_true]; exact ⟨dqt ⟨Nat.le_refl _, by omega⟩, rfl⟩
  refine cH (dqf (by omega)) (aL (fun hn => ?_) (fun hn => ?_))
  ·have hn := of_decide_eq_true hn
   obtain ⟨t1, t2⟩ := J9 hp.2.2.2.2.2.2.2 hn
   have hk1 : decide (((i64.wrap x19).tmod (n2 : Int)).toNat < n2) = true := dqt (by omega)
   have hk2 : decide (0 <= (i64.wrap x19).tmod (n2 : Int) /\ (i64.wrap x19).tmod (n2 : Int) < (n2 : Int) /\ n2 <= n2) = true := dqt ⟨t1, t2, Nat.le_refl _⟩
   have hk5 : decide ((n2 : Int) ≠ 0) = true := dqt (by omega)
   have hTe : elV tyT (tU f2 ((i64.wrap x19).tmod (n2 : Int)).toNat x15 x16 x17) = tU f2 ((i64.wrap x19).tmod (n2 : Int)).toNat x15 x16 x17 := Eo f2 _ x15 x16 x17
   (repeat' (first | refine ak ?_ | refine af ?_ | refine ar ?_ | refine cG ?_ | refine aO hz ?_ | refine aO hg ?_ | refine ac (fq _) ?_ | refine ac hk1 ?_ | refine ac hk2 ?_ | refine ac hk3 ?_ | refine ac hk4 ?_ | refine ac hk5 ?_ | refine bc (fxO cw rfl) ?_ | refine bc (fxO hTe rfl) ?_))
   refine aL (fun h => ?_) (fun h => ?_)
   ·(repeat' (first | refine ak ?_ | refine af ?_ | refine ar ?_ | refine cG ?_ | refine aO hz ?_ | refine aO hg ?_ | refine ac (fq _) ?_ | refine ac hk1 ?_ | refine ac hk2 ?_ | refine ac hk3 ?_ | refine ac hk4 ?_ | refine ac hk5 ?_ | refine bc (fxO cw rfl) ?_ | refine bc (fxO hTe rfl) ?_))
    exact ao rfl
   have h0 : bt i (elV tyR f0) n2 (elV tyT f2) n4 (elV tyF f4) n6 (elV tyC f6) = 0 := by rw [← jI]; simpa using h
   have k0 : bt i (elV tyR (elV tyR f0)) n2 (elV tyT (elV tyT f2)) n4 (elV tyF (elV tyF f4)) n6 (elV tyC (elV tyC f6)) = 0 := by rw [dI, dI, dI, dI]; exact h0
   have hT : ∀ j, j < n2 -> Gt (elV tyT f2 j) ((tU f2 ((i64.wrap x19).tmod (n2 : Int)).toNat x15 x16 x17) j) := fun j hj => JV hp.2.2.2.1 hp.2.2.2.2.1 hp.2.2.2.2.2.1 ((jN h0).tr j hj)
   have hW : ∀ j, j < i -> Wd (elV tyR f0 j) (elV tyR f j) := fun j hj => Ey h0 hj hp.2.2.2.2.2.2.1 (hR j hj)
   (repeat' (first | refine ak ?_ | refine af ?_ | refine ar ?_ | refine cG ?_ | refine aO hz ?_ | refine aO hg ?_ | refine ac (fq _) ?_ | refine ac hk1 ?_ | refine ac hk2 ?_ | refine ac hk3 ?_ | refine ac hk4 ?_ | refine ac hk5 ?_ | refine bc (fxO cw rfl) ?_ | refine bc (fxO hTe rfl) ?_))
   refine aL (fun hu => ?_) (fun hu => ?_)
   ·have k1 : bt i (elV tyR (elV tyR f)) n2 (elV tyT ((tU f2 ((i64.wrap x19).tmod (n2 : Int)).toNat x15 x16 x17))) n4 (elV tyF (elV tyF f4)) n6 (elV tyC (elV tyC f6)) = 0 := by rw [dI, Eo, dI, dI, ← jI]; exact eq_of_beq hu
    have gr := fun (x y a b c d : Int) => nF (x8 := x8) (x := x) (y := y) (a := a) (b := b) (c := c) (d := d) (Nat.le_refl n2) hT k0 k1
    have wd := fun (x y a b c d : Int) => Am (x8 := x8) (x := x) (y := y) (a := a) (b := b) (c := c) (d := d) hW k0 k1
    (repeat' (first | refine ak ?_ | refine af ?_ | refine ar ?_ | refine cG ?_ | refine aO hz ?_ | refine aO hg ?_ | refine ac (fq _) ?_ | refine ac hk1 ?_ | refine ac hk2 ?_ | refine ac hk3 ?_ | refine ac hk4 ?_ | refine ac hk5 ?_ | refine bc (fxO cw rfl) ?_ | refine bc (fxO hTe rfl) ?_))
    refine cH (gbA (gr x9 x10 x11 x12 x13 x14).1 (gr x9 x10 x11 x12 x13 x14).2.1 (gr x9 x10 x11 x12 x13 x14).2.2) ?_
    (repeat' (first | refine ak ?_ | refine af ?_ | refine ar ?_ | refine cG ?_ | refine aO hz ?_ | refine aO hg ?_ | refine ac (fq _) ?_ | refine ac hk1 ?_ | refine ac hk2 ?_ | refine ac hk3 ?_ | refine ac hk4 ?_ | refine ac hk5 ?_ | refine bc (fxO cw rfl) ?_ | refine bc (fxO hTe rfl) ?_))
    refine cH (gbB (wd x9 x10 x11 x12 x13 x14).1 (wd x9 x10 x11 x12 x13 x14).2.1 (wd x9 x10 x11 x12 x13 x14).2.2.1 (wd x9 x10 x11 x12 x13 x14).2.2.2) ?_
    (repeat' (first | refine ak ?_ | refine af ?_ | refine ar ?_ | refine cG ?_ | refine aO hz ?_ | refine aO hg ?_ | refine ac (fq _) ?_ | refine ac hk1 ?_ | refine ac hk2 ?_ | refine ac hk3 ?_ | refine ac hk4 ?_ | refine ac hk5 ?_ | refine bc (fxO cw rfl) ?_ | refine bc (fxO hTe rfl) ?_))
    refine aL (fun hm => ?_) (fun hm => ?_)
    ·have k2 : bt i (elV tyR (elV tyR f0)) (n2 + 1) (elV tyT (aM (av n2 (elV tyT f2) fun x => [vi x9, vi x10, vi (i64.wrap (1 + i64.wrap x15)), vi 0, vi (i64.wrap (1 + i64.wrap x16))]))) n4 (elV tyF (elV tyF f4)) n6 (elV tyC (elV tyC f6)) = 0 := by rw [dI, cw, dI, dI, ← jI]; exact eq_of_beq hm
     have hs : ∀ j, j < n2 -> Sm (elV tyT f2 j) (aM (av n2 (elV tyT f2) fun x => [vi x9, vi x10, vi (i64.wrap (1 + i64.wrap x15)), vi 0, vi (i64.wrap (1 + i64.wrap x16))]) j) := fun j hj => xS hj
     have gm := nF (x8 := x8) (x := x9) (y := x10) (a := x11) (b := x12) (c := x13) (d := x14) (Nat.le_succ n2) (fun j hj => (hs j hj).gt) k0 k2
     have mm := ta (x8 := x8) (x := x9) (y := x10) (Nat.le_succ n2) hs k0 k2
     (repeat' (first | refine ak ?_ | refine af ?_ | refine ar ?_ | refine cG ?_ | refine aO hz ?_ | refine aO hg ?_ | refine ac (fq _) ?_ | refine ac hk1 ?_ | refine ac hk2 ?_ | refine ac hk3 ?_ | refine ac hk4 ?_ | refine ac hk5 ?_ | refine bc (fxO cw rfl) ?_ | refine bc (fxO hTe rfl) ?_))
     refine cH (gbC gm.1 mm gm.2.2) ?_
     (repeat' (first | refine ak ?_ | refine af ?_ | refine ar ?_ | refine cG ?_ | refine aO hz ?_ | refine aO hg ?_ | refine ac (fq _) ?_ | refine ac hk1 ?_ | refine ac hk2 ?_ | refine ac hk3 ?_ | refine ac hk4 ?_ | refine ac hk5 ?_ | refine bc (fxO cw rfl) ?_ | refine bc (fxO hTe rfl) ?_))
     exact ao rfl
    ·(repeat' (first | refine ak ?_ | refine af ?_ | refine ar ?_ | refine cG ?_ | refine aO hz ?_ | refine aO hg ?_ | refine ac (fq _) ?_ | refine ac hk1 ?_ | refine ac hk2 ?_ | refine ac hk3 ?_ | refine ac hk4 ?_ | refine ac hk5 ?_ | refine bc (fxO cw rfl) ?_ | refine bc (fxO hTe rfl) ?_))
     exact ao rfl
   ·(repeat' (first | refine ak ?_ | refine af ?_ | refine ar ?_ | refine cG ?_ | refine aO hz ?_ | refine aO hg ?_ | refine ac (fq _) ?_ | refine ac hk1 ?_ | refine ac hk2 ?_ | refine ac hk3 ?_ | refine ac hk4 ?_ | refine ac hk5 ?_ | refine bc (fxO cw rfl) ?_ | refine bc (fxO hTe rfl) ?_))
    refine aL (fun hm => ?_) (fun hm => ?_)
    ·have k2 : bt i (elV tyR (elV tyR f0)) (n2 + 1) (elV tyT (aM (av n2 (elV tyT f2) fun x => [vi x9, vi x10, vi (i64.wrap (1 + i64.wrap x15)), vi 0, vi (i64.wrap (1 + i64.wrap x16))]))) n4 (elV tyF (elV tyF f4)) n6 (elV tyC (elV tyC f6)) = 0 := by rw [dI, cw, dI, dI, ← jI]; exact eq_of_beq hm
     have hs : ∀ j, j < n2 -> Sm (elV tyT f2 j) (aM (av n2 (elV tyT f2) fun x => [vi x9, vi x10, vi (i64.wrap (1 + i64.wrap x15)), vi 0, vi (i64.wrap (1 + i64.wrap x16))]) j) := fun j hj => xS hj
     have gm := nF (x8 := x8) (x := x9) (y := x10) (a := x11) (b := x12) (c := x13) (d := x14) (Nat.le_succ n2) (fun j hj => (hs j hj).gt) k0 k2
     have mm := ta (x8 := x8) (x := x9) (y := x10) (Nat.le_succ n2) hs k0 k2
     (repeat' (first | refine ak ?_ | refine af ?_ | refine ar ?_ | refine cG ?_ | refine aO hz ?_ | refine aO hg ?_ | refine ac (fq _) ?_ | refine ac hk1 ?_ | refine ac hk2 ?_ | refine ac hk3 ?_ | refine ac hk4 ?_ | refine ac hk5 ?_ | refine bc (fxO cw rfl) ?_ | refine bc (fxO hTe rfl) ?_))
     refine cH (gbC gm.1 mm gm.2.2) ?_
     (repeat' (first | refine ak ?_ | refine af ?_ | refine ar ?_ | refine cG ?_ | refine aO hz ?_ | refine aO hg ?_ | refine ac (fq _) ?_ | refine ac hk1 ?_ | refine ac hk2 ?_ | refine ac hk3 ?_ | refine ac hk4 ?_ | refine ac hk5 ?_ | refine bc (fxO cw rfl) ?_ | refine bc (fxO hTe rfl) ?_))
     exact ao rfl
    ·(repeat' (first | refine ak ?_ | refine af ?_ | refine ar ?_ | refine cG ?_ | refine aO hz ?_ | refine aO hg ?_ | refine ac (fq _) ?_ | refine ac hk1 ?_ | refine ac hk2 ?_ | refine ac hk3 ?_ | refine ac hk4 ?_ | refine ac hk5 ?_ | refine bc (fxO cw rfl) ?_ | refine bc (fxO hTe rfl) ?_))
     exact ao rfl
  ·have hk1 := hk3; have hk2 := hk3; have hk5 := hk3
   have hTe : elV tyT (elV tyT f2) = elV tyT f2 := dI _ _
   (repeat' (first | refine ak ?_ | refine af ?_ | refine ar ?_ | refine cG ?_ | refine aO hz ?_ | refine aO hg ?_ | refine ac (fq _) ?_ | refine ac hk1 ?_ | refine ac hk2 ?_ | refine ac hk3 ?_ | refine ac hk4 ?_ | refine ac hk5 ?_ | refine bc (fxO cw rfl) ?_ | refine bc (fxO hTe rfl) ?_))
   refine aL (fun h => ?_) (fun h => ?_)
   ·(repeat' (first | refine ak ?_ | refine af ?_ | refine ar ?_ | refine cG ?_ | refine aO hz ?_ | refine aO hg ?_ | refine ac (fq _) ?_ | refine ac hk1 ?_ | refine ac hk2 ?_ | refine ac hk3 ?_ | refine ac hk4 ?_ | refine ac hk5 ?_ | refine bc (fxO cw rfl) ?_ | refine bc (fxO hTe rfl) ?_))
    exact ao rfl
   have h0 : bt i (elV tyR f0) n2 (elV tyT f2) n4 (elV tyF f4) n6 (elV tyC f6) = 0 := by rw [← jI]; simpa using h
   have k0 : bt i (elV tyR (elV tyR f0)) n2 (elV tyT (elV tyT f2)) n4 (elV tyF (elV tyF f4)) n6 (elV tyC (elV tyC f6)) = 0 := by rw [dI, dI, dI, dI]; exact h0
   have hT : ∀ j, j < n2 -> Gt (elV tyT f2 j) ((elV tyT f2) j) := fun j hj => xq _
   have hW : ∀ j, j < i -> Wd (elV tyR f0 j) (elV tyR f j) := fun j hj => Ey h0 hj hp.2.2.2.2.2.2.1 (hR j hj)
   (repeat' (first | refine ak ?_ | refine af ?_ | refine ar ?_ | refine cG ?_ | refine aO hz ?_ | refine aO hg ?_ | refine ac (fq _) ?_ | refine ac hk1 ?_ | refine ac hk2 ?_ | refine ac hk3 ?_ | refine ac hk4 ?_ | refine ac hk5 ?_ | refine bc (fxO cw rfl) ?_ | refine bc (fxO hTe rfl) ?_))
   refine aL (fun hu => ?_) (fun hu => ?_)
   ·have k1 : bt i (elV tyR (elV tyR f)) n2 (elV tyT ((elV tyT f2))) n4 (elV tyF (elV tyF f4)) n6 (elV tyC (elV tyC f6)) = 0 := by rw [dI, dI, dI, dI, ← jI]; exact eq_of_beq hu
    have gr := fun (x y a b c d : Int) => nF (x8 := x8) (x := x) (y := y) (a := a) (b := b) (c := c) (d := d) (Nat.le_refl n2) hT k0 k1
    have wd := fun (x y a b c d : Int) => Am (x8 := x8) (x := x) (y := y) (a := a) (b := b) (c := c) (d := d) hW k0 k1
    (repeat' (first | refine ak ?_ | refine af ?_ | refine ar ?_ | refine cG ?_ | refine aO hz ?_ | refine aO hg ?_ | refine ac (fq _) ?_ | refine ac hk1 ?_ | refine ac hk2 ?_ | refine ac hk3 ?_ | refine ac hk4 ?_ | refine ac hk5 ?_ | refine bc (fxO cw rfl) ?_ | refine bc (fxO hTe rfl) ?_))
    refine cH (gbA (gr x9 x10 x11 x12 x13 x14).1 (gr x9 x10 x11 x12 x13 x14).2.1 (gr x9 x10 x11 x12 x13 x14).2.2) ?_
    (repeat' (first | refine ak ?_ | refine af ?_ | refine ar ?_ | refine cG ?_ | refine aO hz ?_ | refine aO hg ?_ | refine ac (fq _) ?_ | refine ac hk1 ?_ | refine ac hk2 ?_ | refine ac hk3 ?_ | refine ac hk4 ?_ | refine ac hk5 ?_ | refine bc (fxO cw rfl) ?_ | refine bc (fxO hTe rfl) ?_))
    refine cH (gbB (wd x9 x10 x11 x12 x13 x14).1 (wd x9 x10 x11 x12 x13 x14).2.1 (wd x9 x10 x11 x12 x13 x14).2.2.1 (wd x9 x10 x11 x12 x13 x14).2.2.2) ?_
    (repeat' (first | refine ak ?_ | refine af ?_ | refine ar ?_ | refine cG ?_ | refine aO hz ?_ | refine aO hg ?_ | refine ac (fq _) ?_ | refine ac hk1 ?_ | refine ac hk2 ?_ | refine ac hk3 ?_ | refine ac hk4 ?_ | refine ac hk5 ?_ | refine bc (fxO cw rfl) ?_ | refine bc (fxO hTe rfl) ?_))
    refine aL (fun hm => ?_) (fun hm => ?_)
    ·have k2 : bt i (elV tyR (elV tyR f0)) (n2 + 1) (elV tyT (aM (av n2 (elV tyT f2) fun x => [vi x9, vi x10, vi (i64.wrap (1 + i64.wrap x15)), vi 0, vi (i64.wrap (1 + i64.wrap x16))]))) n4 (elV tyF (elV tyF f4)) n6 (elV tyC (elV tyC f6)) = 0 := by rw [dI, cw, dI, dI, ← jI]; exact eq_of_beq hm
     have hs : ∀ j, j < n2 -> Sm (elV tyT f2 j) (aM (av n2 (elV tyT f2) fun x => [vi x9, vi x10, vi (i64.wrap (1 + i64.wrap x15)), vi 0, vi (i64.wrap (1 + i64.wrap x16))]) j) := fun j hj => xS hj
     have gm := nF (x8 := x8) (x := x9) (y := x10) (a := x11) (b := x12) (c := x13) (d := x14) (Nat.le_succ n2) (fun j hj => (hs j hj).gt) k0 k2
     have mm := ta (x8 := x8) (x := x9) (y := x10) (Nat.le_succ n2) hs k0 k2
     (repeat' (first | refine ak ?_ | refine af ?_ | refine ar ?_ | refine cG ?_ | refine aO hz ?_ | refine aO hg ?_ | refine ac (fq _) ?_ | refine ac hk1 ?_ | refine ac hk2 ?_ | refine ac hk3 ?_ | refine ac hk4 ?_ | refine ac hk5 ?_ | refine bc (fxO cw rfl) ?_ | refine bc (fxO hTe rfl) ?_))
     refine cH (gbC gm.1 mm gm.2.2) ?_
     (repeat' (first | refine ak ?_ | refine af ?_ | refine ar ?_ | refine cG ?_ | refine aO hz ?_ | refine aO hg ?_ | refine ac (fq _) ?_ | refine ac hk1 ?_ | refine ac hk2 ?_ | refine ac hk3 ?_ | refine ac hk4 ?_ | refine ac hk5 ?_ | refine bc (fxO cw rfl) ?_ | refine bc (fxO hTe rfl) ?_))
     exact ao rfl
    ·(repeat' (first | refine ak ?_ | refine af ?_ | refine ar ?_ | refine cG ?_ | refine aO hz ?_ | refine aO hg ?_ | refine ac (fq _) ?_ | refine ac hk1 ?_ | refine ac hk2 ?_ | refine ac hk3 ?_ | refine ac hk4 ?_ | refine ac hk5 ?_ | refine bc (fxO cw rfl) ?_ | refine bc (fxO hTe rfl) ?_))
     exact ao rfl
   ·(repeat' (first | refine ak ?_ | refine af ?_ | refine ar ?_ | refine cG ?_ | refine aO hz ?_ | refine aO hg ?_ | refine ac (fq _) ?_ | refine ac hk1 ?_ | refine ac hk2 ?_ | refine ac hk3 ?_ | refine ac hk4 ?_ | refine ac hk5 ?_ | refine bc (fxO cw rfl) ?_ | refine bc (fxO hTe rfl) ?_))
    refine aL (fun hm => ?_) (fun hm => ?_)
    ·have k2 : bt i (elV tyR (elV tyR f0)) (n2 + 1) (elV tyT (aM (av n2 (elV tyT f2) fun x => [vi x9, vi x10, vi (i64.wrap (1 + i64.wrap x15)), vi 0, vi (i64.wrap (1 + i64.wrap x16))]))) n4 (elV tyF (elV tyF f4)) n6 (elV tyC (elV tyC f6)) = 0 := by rw [dI, cw, dI, dI, ← jI]; exact eq_of_beq hm
     have hs : ∀ j, j < n2 -> Sm (elV tyT f2 j) (aM (av n2 (elV tyT f2) fun x => [vi x9, vi x10, vi (i64.wrap (1 + i64.wrap x15)), vi 0, vi (i64.wrap (1 + i64.wrap x16))]) j) := fun j hj => xS hj
     have gm := nF (x8 := x8) (x := x9) (y := x10) (a := x11) (b := x12) (c := x13) (d := x14) (Nat.le_succ n2) (fun j hj => (hs j hj).gt) k0 k2
     have mm := ta (x8 := x8) (x := x9) (y := x10) (Nat.le_succ n2) hs k0 k2
     (repeat' (first | refine ak ?_ | refine af ?_ | refine ar ?_ | refine cG ?_ | refine aO hz ?_ | refine aO hg ?_ | refine ac (fq _) ?_ | refine ac hk1 ?_ | refine ac hk2 ?_ | refine ac hk3 ?_ | refine ac hk4 ?_ | refine ac hk5 ?_ | refine bc (fxO cw rfl) ?_ | refine bc (fxO hTe rfl) ?_))
     refine cH (gbC gm.1 mm gm.2.2) ?_
     (repeat' (first | refine ak ?_ | refine af ?_ | refine ar ?_ | refine cG ?_ | refine aO hz ?_ | refine aO hg ?_ | refine ac (fq _) ?_ | refine ac hk1 ?_ | refine ac hk2 ?_ | refine ac hk3 ?_ | refine ac hk4 ?_ | refine ac hk5 ?_ | refine bc (fxO cw rfl) ?_ | refine bc (fxO hTe rfl) ?_))
     exact ao rfl
    ·(repeat' (first | refine ak ?_ | refine af ?_ | refine ar ?_ | refine cG ?_ | refine aO hz ?_ | refine aO hg ?_ | refine ac (fq _) ?_ | refine ac hk1 ?_ | refine ac hk2 ?_ | refine ac hk3 ?_ | refine ac hk4 ?_ | refine ac hk5 ?_ | refine bc (fxO cw rfl) ?_ | refine bc (fxO hTe rfl) ?_))
     exact ao rfl
theorem KC (n0 : Nat) (f0 : FnV) (n2 : Nat) (f2 : FnV) (n4 : Nat) (f4 : FnV) (n6 : Nat) (f6 : FnV) (x8 x9 x10 x11 x12 x13 x14 x15 x16 x17 x18 x19 : Int) (hp : (cY n0 f0 /\ cY n6 f6) /\ n0 * 56 <= 140737488351232 /\ n2 * 40 <= 140737488351232 /\ (0 <= x15 /\ x15 <= 255) /\ (0 <= x16 /\ x16 <= 255) /\ (0 <= x17 /\ x17 <= 255) /\ (0 <= x18 /\ x18 <= 255) /\ (0 <= x19 /\ x19 <= 255)) : evR (Ev (st7 n0 f0 n2 f2 n4 f4 n6 f6 x8 x9 x10 x11 x12 x13 x14 x15 x16 x17 x18 x19)) (m7 n0 f0 n2 f2 n4 f4 n6 f6 x8 x9 x10 x11 x12 x13 x14 x15 x16 x17 x18 x19) (.bool true) := by
 refine cG (ac ?_ (cG (ac ?_ (aJ (c7 n0 f0 n2 f2 n4 f4 n6 f6 x8 x9 x10 x11 x12 x13 x14 x15 x16 x17 x18 x19 hp 0 (Nat.zero_le _) _ fun j hj => ⟨fun hc => absurd hc (Nat.not_lt_zero _), fun _ => bn tyR _⟩)))))
 ·simp only [Bool.and_eq_true]; exact ⟨dqt (by have := hp.2.1; omega), rfl⟩
 ·simp only [Bool.and_eq_true]; exact ⟨dqt (by have := hp.2.2.1; omega), rfl⟩
def tys7 : List Ty := [.agg [.sl tyR, .sl tyT, .sl tyF, .sl tyC], .agg [.int .i64, .int .i64, .int .i64, .int .i64, .int .i64, .int .i64, .int .i64], .agg [.int .u8, .int .u8, .int .u8, .int .u8, .int .u8]]
theorem ok7 : (vP (lawD tys7)).Ok Tryz.prog 7 := mkE FJ Tryz.func7 (by kernel_rfl) fun ds hp => rfs (Lm ..) (KC _ _ _ _ _ _ _ _ _ _ _ _ _ _ _ _ _ _ _ _ (by have h : d9 [.agg [.sl tyR, .sl tyT, .sl tyF, .sl tyC], .agg [.int .i64, .int .i64, .int .i64, .int .i64, .int .i64, .int .i64, .int .i64], .agg [.int .u8, .int .u8, .int .u8, .int .u8, .int .u8]] _ /\ dD [.agg [.sl tyR, .sl tyT, .sl tyF, .sl tyC], .agg [.int .i64, .int .i64, .int .i64, .int .i64, .int .i64, .int .i64, .int .i64], .agg [.int .u8, .int .u8, .int .u8, .int .u8, .int .u8]] _ := hp; exact ⟨⟨fun i hi => (h.1.1.1 i hi).1, fun i hi => (h.1.1.2.2.2.1 i hi).1⟩, h.2.1.1.1, h.2.1.2.1.1, h.1.2.2.1.1, h.1.2.2.1.2.1, h.1.2.2.1.2.2.1, h.1.2.2.1.2.2.2.1, h.1.2.2.1.2.2.2.2.1⟩))
end
end Go.Dx
