/- Part 5 of a proof. No conditions. -/
import Derived.Test.YtkdokmjehblpoaaGreatDoorRg4
set_option maxRecDepth 100000
set_option linter.unusedVariables false
set_option linter.unusedSimpArgs false
namespace Go.Dx
section
variable {ax ay bx b2 px py r n m k X0 Y0 X1 Y1 : Int}
def ls (ex ey X0 Y0 X1 Y1 r : Int) : Prop := q2 (max (max (X0 - ex) 0) (ex - X1)) (max (max (Y0 - ey) 0) (ey - Y1)) <= r * r
def jS (ax ay bx b2 X0 Y0 X1 Y1 : Int) : Prop := ∃ n m, 0 <= n /\ n <= m /\ 0 < m /\ (m * X0 <= (m - n) * ax + n * bx /\ (m - n) * ax + n * bx <= m * X1) /\ (m * Y0 <= (m - n) * ay + n * b2 /\ (m - n) * ay + n * b2 <= m * Y1)
def Cor (ax ay bx b2 X0 Y0 X1 Y1 r : Int) : Prop := ∃ cx cy, (cx = X0 ∨ cx = X1) /\ (cy = Y0 ∨ cy = Y1) /\ Nq ax ay bx b2 cx cy 1 r
def Res (ax ay bx b2 X0 Y0 X1 Y1 r : Int) : Prop := Cor ax ay bx b2 X0 Y0 X1 Y1 r ∨ ls ax ay X0 Y0 X1 Y1 r ∨ ls bx b2 X0 Y0 X1 Y1 r ∨ jS ax ay bx b2 X0 Y0 X1 Y1
theorem At.sw (h : At ax ay bx b2 px py k r n m) : At bx b2 ax ay px py k r (m - n) m := by
 obtain ⟨h1, h2, h3, h4⟩ := h
 refine ⟨by omega, by omega, h3, ?_⟩
 rw [show (m - (m - n)) * bx + (m - n) * ax = (m - n) * ax + n * bx by grind, show (m - (m - n)) * b2 + (m - n) * ay = (m - n) * ay + n * b2 by grind]
 exact h4
theorem Nq.sw (h : Nq ax ay bx b2 px py k r) : Nq bx b2 ax ay px py k r := let ⟨n, m, h⟩ := h; ⟨m - n, m, h.sw⟩
theorem Nq.ry (h : Nq ax (-ay) bx (-b2) px (-py) k r) : Nq ax ay bx b2 px py k r := by
 obtain ⟨n, m, h1, h2, h3, h4⟩ := h
 refine ⟨n, m, h1, h2, h3, ?_⟩
 rw [show m * -py - k * ((m - n) * -ay + n * -b2) = -(m * py - k * ((m - n) * ay + n * b2)) by grind, fN, o0, fN] at h4
 exact h4
theorem Nq.rx (h : Nq (-ax) ay (-bx) b2 (-px) py k r) : Nq ax ay bx b2 px py k r := by
 obtain ⟨n, m, h1, h2, h3, h4⟩ := h
 refine ⟨n, m, h1, h2, h3, ?_⟩
 rw [show m * -px - k * ((m - n) * -ax + n * -bx) = -(m * px - k * ((m - n) * ax + n * bx)) by grind, o0] at h4
 exact h4
theorem Nq.xy (h : Nq ay ax b2 bx py px k r) : Nq ax ay bx b2 px py k r := by
 obtain ⟨n, m, h1, h2, h3, h4⟩ := h
 exact ⟨n, m, h1, h2, h3, by rw [fN]; exact h4⟩
theorem jS.sw (h : jS ax ay bx b2 X0 Y0 X1 Y1) : jS bx b2 ax ay X0 Y0 X1 Y1 := by
 obtain ⟨n, m, h1, h2, h3, h4, h5⟩ := h
 have e1 : (m - (m - n)) * bx + (m - n) * ax = (m - n) * ax + n * bx := by grind
 have e2 : (m - (m - n)) * b2 + (m - n) * ay = (m - n) * ay + n * b2 := by grind
 exact ⟨m - n, m, by omega, by omega, h3, by rw [e1]; exact h4, by rw [e2]; exact h5⟩
theorem Res.sw (h : Res ax ay bx b2 X0 Y0 X1 Y1 r) : Res bx b2 ax ay X0 Y0 X1 Y1 r := by
 rcases h with ⟨cx, cy, h1, h2, h3⟩ | h | h | h
 ·exact .inl ⟨cx, cy, h1, h2, h3.sw⟩
 ·exact .inr (.inr (.inl h))
 ·exact .inr (.inl h)
 ·exact .inr (.inr (.inr h.sw))
theorem ls.rx {ex ey : Int} (h : ls (-ex) ey (-X1) Y0 (-X0) Y1 r) : ls ex ey X0 Y0 X1 Y1 r := by
 unfold ls at *
 rwa [show max (max (-X1 - -ex) 0) (-ex - -X0) = max (max (X0 - ex) 0) (ex - X1) by omega] at h
theorem ls.xy {ex ey : Int} (h : ls ey ex Y0 X0 Y1 X1 r) : ls ex ey X0 Y0 X1 Y1 r := by
 unfold ls at *; rwa [fN]
theorem Res.rx (h : Res (-ax) ay (-bx) b2 (-X1) Y0 (-X0) Y1 r) : Res ax ay bx b2 X0 Y0 X1 Y1 r := by
 rcases h with ⟨cx, cy, h1, h2, h3⟩ | h | h | ⟨n, m, h1, h2, h3, h4, h5⟩
 ·exact .inl ⟨-cx, cy, by omega, h2, Nq.rx (by rw [Int.neg_neg]; exact h3)⟩
 ·exact .inr (.inl h.rx)
 ·exact .inr (.inr (.inl h.rx))
 ·refine .inr (.inr (.inr ⟨n, m, h1, h2, h3, ?_, h5⟩))
  have e : (m - n) * -ax + n * -bx = -((m - n) * ax + n * bx) := by grind
  rw [e, Int.mul_neg, Int.mul_neg] at h4
  omega
theorem Res.xy (h : Res ay ax b2 bx Y0 X0 Y1 X1 r) : Res ax ay bx b2 X0 Y0 X1 Y1 r := by
 rcases h with ⟨cx, cy, h1, h2, h3⟩ | h | h | ⟨n, m, h1, h2, h3, h4, h5⟩
 ·exact .inl ⟨cy, cx, h2, h1, h3.xy⟩
 ·exact .inr (.inl h.xy)
 ·exact .inr (.inr (.inl h.xy))
 ·exact .inr (.inr (.inr ⟨n, m, h1, h2, h3, h5, h4⟩))
theorem up {n1 m1 : Int} (hr : 0 <= r) (h1 : 0 <= n) (h2 : n <= m) (h3 : 0 < m) (g1 : 0 <= n1) (g2 : n1 <= m1) (g3 : 0 < m1) (ho : n * m1 <= n1 * m) (hd : ax <= bx)
 (hy : (m - n) * ay + n * b2 <= m * Y1) (hx : m * X0 - ((m - n) * ax + n * bx) <= m * r) (ky : m1 * Y1 < (m1 - n1) * ay + n1 * b2) (kx : (m1 - n1) * ax + n1 * bx <= m1 * X0) : Nq ax ay bx b2 X0 Y1 1 r := by
 have ey : (m - n) * ay + n * b2 = m * ay + n * (b2 - ay) := by grind
 have ey1 : (m1 - n1) * ay + n1 * b2 = m1 * ay + n1 * (b2 - ay) := by grind
 have ex : (m - n) * ax + n * bx = m * ax + n * (bx - ax) := by grind
 have ex1 : (m1 - n1) * ax + n1 * bx = m1 * ax + n1 * (bx - ax) := by grind
 rw [ey] at hy; rw [ex] at hx; rw [ey1] at ky; rw [ex1] at kx
 have hD : 0 < b2 - ay := by
  apply Classical.byContradiction; intro hn
  have k1 := iml hy (Int.le_of_lt g3)
  have k2 := Int.mul_lt_mul_of_pos_left ky h3
  have k3 := imn (show 0 <= n1 * m - n * m1 by omega) (show 0 <= -(b2 - ay) by omega)
  have e1 : m1 * (m * ay + n * (b2 - ay)) = m1 * m * ay + n * m1 * (b2 - ay) := by grind
  have e2 : m * (m1 * ay + n1 * (b2 - ay)) = m1 * m * ay + n1 * m * (b2 - ay) := by grind
  have e3 : (n1 * m - n * m1) * -(b2 - ay) = n * m1 * (b2 - ay) - n1 * m * (b2 - ay) := by grind
  have e4 : m1 * (m * Y1) = m * (m1 * Y1) := by grind
  omega
 have o1 : 0 <= Y1 - ay := by
  have k1 := imn h1 (Int.le_of_lt hD)
  have : m * ay <= m * Y1 := by omega
  have := cK h3 this; omega
 have o2 : Y1 - ay <= b2 - ay := by
  have k1 := Int.mul_le_mul_of_nonneg_right g2 (Int.le_of_lt hD)
  have e : m1 * ay + m1 * (b2 - ay) = m1 * b2 := by grind
  have : m1 * Y1 <= m1 * b2 := by omega
  have := cK g3 this; omega
 have o3 : n * (b2 - ay) <= m * (Y1 - ay) := by rw [Int.mul_sub m]; omega
 have o4 : m1 * (Y1 - ay) <= n1 * (b2 - ay) := by rw [Int.mul_sub m1]; omega
 have e0 : (b2 - ay) * X0 - 1 * (((b2 - ay) - (Y1 - ay)) * ax + (Y1 - ay) * bx) = (b2 - ay) * (X0 - ax) - (Y1 - ay) * (bx - ax) := by grind
 have e00 : (b2 - ay) * Y1 - 1 * (((b2 - ay) - (Y1 - ay)) * ay + (Y1 - ay) * b2) = 0 := by grind
 refine ⟨Y1 - ay, b2 - ay, o1, o2, hD, ?_⟩
 rw [e0, e00, Int.mul_one]
 generalize b2 - ay = D at *
 generalize Y1 - ay = N at *
 have hd' : 0 <= bx - ax := by omega
 have lo : 0 <= D * (X0 - ax) - N * (bx - ax) := by
  refine cK g3 ?_
  have k1 := Int.mul_le_mul_of_nonneg_right o4 hd'
  have k2 := imn (Int.le_of_lt hD) (show 0 <= m1 * X0 - (m1 * ax + n1 * (bx - ax)) by omega)
  have e1 : m1 * (D * (X0 - ax) - N * (bx - ax)) = D * (m1 * X0 - (m1 * ax + n1 * (bx - ax))) + (n1 * D * (bx - ax) - m1 * N * (bx - ax)) := by grind
  omega
 have hi : D * (X0 - ax) - N * (bx - ax) <= D * r := by
  refine cK h3 ?_
  have k1 := Int.mul_le_mul_of_nonneg_right o3 hd'
  have k2 := imn (Int.le_of_lt hD) (show 0 <= m * r - (m * X0 - (m * ax + n * (bx - ax))) by omega)
  have e1 : m * (D * r) - m * (D * (X0 - ax) - N * (bx - ax)) = D * (m * r - (m * X0 - (m * ax + n * (bx - ax)))) + (m * N * (bx - ax) - n * D * (bx - ax)) := by grind
  omega
 have := xZ (x := D * (X0 - ax) - N * (bx - ax)) (x' := D * r) (y := 0) (y' := 0) lo hi (Int.le_refl _) (Int.le_refl _)
 have e : q2 (D * r) 0 = D * r * (D * r) := by unfold q2; omega
 omega
theorem lf (hr : 0 <= r) (hX : X0 <= X1) (h1 : 0 <= n) (h2 : n <= m) (h3 : 0 < m) (hd : ax <= bx) (hy0 : m * Y0 <= (m - n) * ay + n * b2) (hy1 : (m - n) * ay + n * b2 <= m * Y1)
 (hx0 : (m - n) * ax + n * bx <= m * X0) (hx : m * X0 - ((m - n) * ax + n * bx) <= m * r) : Res ax ay bx b2 X0 Y0 X1 Y1 r := by
 have dn : ∀ n1 m1 : Int, 0 <= n1 -> n1 <= m1 -> 0 < m1 -> n * m1 <= n1 * m -> (m1 - n1) * ay + n1 * b2 < m1 * Y0 -> (m1 - n1) * ax + n1 * bx <= m1 * X0 -> Res ax ay bx b2 X0 Y0 X1 Y1 r := fun n1 m1 g1 g2 g3 g4 g5 g6 => by
  refine .inl ⟨X0, Y0, .inl rfl, .inl rfl, Nq.ry (up (Y1 := -Y0) (ay := -ay) (b2 := -b2) hr h1 h2 h3 g1 g2 g3 g4 hd ?_ hx ?_ g6)⟩
  ·have e : (m - n) * -ay + n * -b2 = -((m - n) * ay + n * b2) := by grind
   rw [e, Int.mul_neg]; omega
  ·have e : (m1 - n1) * -ay + n1 * -b2 = -((m1 - n1) * ay + n1 * b2) := by grind
   rw [e, Int.mul_neg]; omega
 have uu : ∀ n1 m1 : Int, 0 <= n1 -> n1 <= m1 -> 0 < m1 -> n * m1 <= n1 * m -> m1 * Y1 < (m1 - n1) * ay + n1 * b2 -> (m1 - n1) * ax + n1 * bx <= m1 * X0 -> Res ax ay bx b2 X0 Y0 X1 Y1 r := fun n1 m1 g1 g2 g3 g4 g5 g6 =>
  .inl ⟨X0, Y1, .inl rfl, .inr rfl, up hr h1 h2 h3 g1 g2 g3 g4 hd hy1 hx g5 g6⟩
 by_cases c : bx <= X0
 ·have hn : n * 1 <= 1 * m := by omega
  have ex : (1 - 1) * ax + 1 * bx <= 1 * X0 := by omega
  by_cases c1 : b2 < Y0
  ·exact dn 1 1 (by omega) (by omega) (by omega) hn (by omega) ex
  ·by_cases c2 : Y1 < b2
   ·exact uu 1 1 (by omega) (by omega) (by omega) hn (by omega) ex
   ·refine .inr (.inr (.inl ?_))
    have k1 : m * X0 - m * bx <= m * r := by
     have := imn (show 0 <= m - n by omega) (show 0 <= bx - ax by omega)
     have e : m * bx = (m - n) * ax + n * bx + (m - n) * (bx - ax) := by grind
     omega
    have k2 : X0 - bx <= r := cK h3 (by rw [Int.mul_sub]; exact k1)
    unfold ls
    rw [show max (max (X0 - bx) 0) (bx - X1) = X0 - bx by omega, show max (max (Y0 - b2) 0) (b2 - Y1) = 0 by omega]
    have := xZ (x := X0 - bx) (x' := r) (y := 0) (y' := 0) (by omega) k2 (Int.le_refl _) (Int.le_refl _)
    have e : q2 r 0 = r * r := by unfold q2; omega
    omega
 ·have e0 : (m - n) * ax + n * bx = m * ax + n * (bx - ax) := by grind
  have hA : ax <= X0 := by
   apply Classical.byContradiction; intro hn
   have k1 := imn h1 (show 0 <= bx - ax by omega)
   have k2 := Int.mul_lt_mul_of_pos_left (show X0 < ax by omega) h3
   omega
  have hD : 0 < bx - ax := by omega
  have ho : n * (bx - ax) <= (X0 - ax) * m := by
   have e : (X0 - ax) * m = m * X0 - m * ax := by grind
   omega
  have ex : ((bx - ax) - (X0 - ax)) * ax + (X0 - ax) * bx = (bx - ax) * X0 := by grind
  by_cases c1 : ((bx - ax) - (X0 - ax)) * ay + (X0 - ax) * b2 < (bx - ax) * Y0
  ·exact dn _ _ (by omega) (by omega) hD ho c1 (by rw [ex]; exact Int.le_refl _)
  ·by_cases c2 : (bx - ax) * Y1 < ((bx - ax) - (X0 - ax)) * ay + (X0 - ax) * b2
   ·exact uu _ _ (by omega) (by omega) hD ho c2 (by rw [ex]; exact Int.le_refl _)
   ·exact .inr (.inr (.inr ⟨X0 - ax, bx - ax, by omega, by omega, hD, ⟨by rw [ex]; exact Int.le_refl _, by rw [ex]; exact iml hX (Int.le_of_lt hD)⟩, by omega, by omega⟩))
theorem lf2 (hr : 0 <= r) (hX : X0 <= X1) (h1 : 0 <= n) (h2 : n <= m) (h3 : 0 < m) (hy0 : m * Y0 <= (m - n) * ay + n * b2) (hy1 : (m - n) * ay + n * b2 <= m * Y1)
 (hx0 : (m - n) * ax + n * bx <= m * X0) (hx : m * X0 - ((m - n) * ax + n * bx) <= m * r) : Res ax ay bx b2 X0 Y0 X1 Y1 r := by
 rcases Int.le_total ax bx with hd | hd
 ·exact lf hr hX h1 h2 h3 hd hy0 hy1 hx0 hx
 ·have e1 : (m - (m - n)) * bx + (m - n) * ax = (m - n) * ax + n * bx := by grind
  have e2 : (m - (m - n)) * b2 + (m - n) * ay = (m - n) * ay + n * b2 := by grind
  exact (lf (n := m - n) hr hX (by omega) (by omega) h3 hd (by rw [e2]; exact hy0) (by rw [e2]; exact hy1) (by rw [e1]; exact hx0) (by rw [e1]; exact hx)).sw
theorem rf2 (hr : 0 <= r) (hX : X0 <= X1) (h1 : 0 <= n) (h2 : n <= m) (h3 : 0 < m) (hy0 : m * Y0 <= (m - n) * ay + n * b2) (hy1 : (m - n) * ay + n * b2 <= m * Y1)
 (hx0 : m * X1 <= (m - n) * ax + n * bx) (hx : ((m - n) * ax + n * bx) - m * X1 <= m * r) : Res ax ay bx b2 X0 Y0 X1 Y1 r := by
 have e : (m - n) * -ax + n * -bx = -((m - n) * ax + n * bx) := by grind
 exact Res.rx (lf2 hr (by omega) h1 h2 h3 hy0 hy1 (by rw [e, Int.mul_neg]; omega) (by rw [e, Int.mul_neg]; omega))
theorem ug {x y R : Int} (hR : 0 <= R) (h : q2 x y <= R * R) : x <= R := by
 refine Ef hR ?_
 have := sq0 y
 unfold q2 at h; omega
theorem jd {a b : Int} (h0 : 0 <= a) (h : a <= b ∨ a <= -b) : a * a <= b * b := by
 rcases h with h | h
 ·exact Int.mul_le_mul h h h0 (by omega)
 ·have := Int.mul_le_mul h h h0 (by omega)
  rwa [Int.neg_mul_neg] at this
theorem zj (hr : 0 <= r) (hk : 0 < k) (hX : X0 <= X1) (hY : Y0 <= Y1) (x0 : k * X0 <= px) (x1 : px <= k * X1) (y0 : k * Y0 <= py) (y1 : py <= k * Y1) (h : Nq ax ay bx b2 px py k r) : Res ax ay bx b2 X0 Y0 X1 Y1 r := by
 obtain ⟨n, m, h1, h2, h3, h4⟩ := h
 have hm : 0 <= m := Int.le_of_lt h3
 have key : ∀ (P Q Z0 Z1 : Int), k * Z0 <= P -> P <= k * Z1 -> (k * max (max (m * Z0 - Q) 0) (Q - m * Z1)) * (k * max (max (m * Z0 - Q) 0) (Q - m * Z1)) <= (m * P - k * Q) * (m * P - k * Q) := fun P Q Z0 Z1 g1 g2 => by
  refine jd (imn (Int.le_of_lt hk) (by omega)) ?_
  have k1 := iml g1 hm
  have k2 := iml g2 hm
  have e1 : k * (m * Z0 - Q) = m * (k * Z0) - k * Q := by grind
  have e2 : k * (Q - m * Z1) = k * Q - m * (k * Z1) := by grind
  by_cases c1 : 0 <= m * Z0 - Q
  ·by_cases c2 : Q - m * Z1 <= m * Z0 - Q
   ·left; rw [show max (max (m * Z0 - Q) 0) (Q - m * Z1) = m * Z0 - Q by omega]; omega
   ·right; rw [show max (max (m * Z0 - Q) 0) (Q - m * Z1) = Q - m * Z1 by omega]; omega
  ·by_cases c2 : 0 <= Q - m * Z1
   ·right; rw [show max (max (m * Z0 - Q) 0) (Q - m * Z1) = Q - m * Z1 by omega]; omega
   ·rw [show max (max (m * Z0 - Q) 0) (Q - m * Z1) = 0 by omega, Int.mul_zero]; omega
 have kx := key px ((m - n) * ax + n * bx) X0 X1 x0 x1
 have ky := key py ((m - n) * ay + n * b2) Y0 Y1 y0 y1
 have hq : q2 (max (max (m * X0 - ((m - n) * ax + n * bx)) 0) (((m - n) * ax + n * bx) - m * X1)) (max (max (m * Y0 - ((m - n) * ay + n * b2)) 0) (((m - n) * ay + n * b2) - m * Y1)) <= m * r * (m * r) := by
  refine g8 hk ?_
  rw [← dN, show k * k * (m * r * (m * r)) = m * k * r * (m * k * r) by grind]
  refine Int.le_trans ?_ h4
  unfold q2; omega
 have hR := imn hm hr
 have qx := ug hR hq
 have qy := ug hR (by rw [fN]; exact hq)
 have mX := iml hX hm
 have mY := iml hY hm
 have cor : ∀ cx cy : Int, (cx = X0 ∨ cx = X1) -> (cy = Y0 ∨ cy = Y1) -> q2 (m * cx - ((m - n) * ax + n * bx)) (m * cy - ((m - n) * ay + n * b2)) <= m * r * (m * r) -> Res ax ay bx b2 X0 Y0 X1 Y1 r := fun cx cy g1 g2 g3 =>
  .inl ⟨cx, cy, g1, g2, n, m, h1, h2, h3, by rw [Int.one_mul, Int.one_mul, Int.mul_one]; exact g3⟩
 generalize hQx : (m - n) * ax + n * bx = Qx at *
 generalize hQy : (m - n) * ay + n * b2 = Qy at *
 have ng : ∀ a b : Int, q2 (b - a) (b - a) = q2 (a - b) (a - b) := fun a b => by unfold q2; grind
 by_cases a1 : Qx < m * X0
 ·rw [show max (max (m * X0 - Qx) 0) (Qx - m * X1) = m * X0 - Qx by omega] at hq qx
  by_cases b1 : Qy < m * Y0
  ·rw [show max (max (m * Y0 - Qy) 0) (Qy - m * Y1) = m * Y0 - Qy by omega] at hq
   exact cor X0 Y0 (.inl rfl) (.inl rfl) hq
  ·by_cases b3 : m * Y1 < Qy
   ·rw [show max (max (m * Y0 - Qy) 0) (Qy - m * Y1) = -(m * Y1 - Qy) by omega, fN, o0, fN] at hq
    exact cor X0 Y1 (.inl rfl) (.inr rfl) hq
   ·exact lf2 hr hX h1 h2 h3 (by rw [hQy]; omega) (by rw [hQy]; omega) (by rw [hQx]; omega) (by rw [hQx]; omega)
 ·by_cases a3 : m * X1 < Qx
  ·rw [show max (max (m * X0 - Qx) 0) (Qx - m * X1) = -(m * X1 - Qx) by omega] at hq qx
   rw [o0] at hq
   by_cases b1 : Qy < m * Y0
   ·rw [show max (max (m * Y0 - Qy) 0) (Qy - m * Y1) = m * Y0 - Qy by omega] at hq
    exact cor X1 Y0 (.inr rfl) (.inl rfl) hq
   ·by_cases b3 : m * Y1 < Qy
    ·rw [show max (max (m * Y0 - Qy) 0) (Qy - m * Y1) = -(m * Y1 - Qy) by omega, fN, o0, fN] at hq
     exact cor X1 Y1 (.inr rfl) (.inr rfl) hq
    ·exact rf2 hr hX h1 h2 h3 (by rw [hQy]; omega) (by rw [hQy]; omega) (by rw [hQx]; omega) (by rw [hQx]; omega)
  ·by_cases b1 : Qy < m * Y0
   ·rw [show max (max (m * Y0 - Qy) 0) (Qy - m * Y1) = m * Y0 - Qy by omega] at qy
    exact Res.xy (lf2 hr hY h1 h2 h3 (by rw [hQx]; omega) (by rw [hQx]; omega) (by rw [hQy]; omega) (by rw [hQy]; omega))
   ·by_cases b3 : m * Y1 < Qy
    ·rw [show max (max (m * Y0 - Qy) 0) (Qy - m * Y1) = Qy - m * Y1 by omega] at qy
     exact Res.xy (rf2 hr hY h1 h2 h3 (by rw [hQx]; omega) (by rw [hQx]; omega) (by rw [hQy]; omega) (by rw [hQy]; omega))
    ·exact .inr (.inr (.inr ⟨n, m, h1, h2, h3, by rw [hQx]; omega, by rw [hQy]; omega⟩))
theorem wv (hX : X0 <= X1) (hY : Y0 <= Y1) (h : jS ax ay bx b2 X0 Y0 X1 Y1) : Bx ax ay bx b2 X0 Y0 X1 Y1 /\ (∃ cx cy, (cx = X0 ∨ cx = X1) /\ (cy = Y0 ∨ cy = Y1) /\ 0 <= sd ax ay bx b2 cx cy) /\ ∃ cx cy, (cx = X0 ∨ cx = X1) /\ (cy = Y0 ∨ cy = Y1) /\ sd ax ay bx b2 cx cy <= 0 := by
 obtain ⟨n, m, h1, h2, h3, ⟨h4, h5⟩, h6, h7⟩ := h
 have hm : 0 <= m := Int.le_of_lt h3
 have hmn : 0 <= m - n := by omega
 have mono : ∀ a b Z : Int, (m - n) * a + n * b <= m * Z -> ¬ (Z < min a b) := fun a b Z g hn => by
  have k1 := iml (show Z + 1 <= a by omega) hmn
  have k2 := iml (show Z + 1 <= b by omega) h1
  have e : (m - n) * (Z + 1) + n * (Z + 1) = m * Z + m := by grind
  omega
 have mono2 : ∀ a b Z : Int, m * Z <= (m - n) * a + n * b -> ¬ (max a b < Z) := fun a b Z g hn => by
  have k1 := iml (show a <= Z - 1 by omega) hmn
  have k2 := iml (show b <= Z - 1 by omega) h1
  have e : (m - n) * (Z - 1) + n * (Z - 1) = m * Z - m := by grind
  omega
 have e0 : (bx - ax) * ((m - n) * ay + n * b2) - (b2 - ay) * ((m - n) * ax + n * bx) = m * ((bx - ax) * ay - (b2 - ay) * ax) := by grind
 have es : ∀ cx cy : Int, m * sd ax ay bx b2 cx cy = (bx - ax) * (m * cy - ((m - n) * ay + n * b2)) - (b2 - ay) * (m * cx - ((m - n) * ax + n * bx)) := fun cx cy => by unfold sd; grind
 refine ⟨fun hn => ?_, ?_, ?_⟩
 ·rcases hn with hn | hn | hn | hn
  ·exact mono2 _ _ _ h4 hn
  ·exact mono _ _ _ h5 hn
  ·exact mono2 _ _ _ h6 hn
  ·exact mono _ _ _ h7 hn
 ·have sgn : ∀ D lo hi : Int, lo <= 0 -> 0 <= hi -> 0 <= D * hi ∨ 0 <= D * lo := fun D lo hi l1 l2 => by
   rcases Int.le_total 0 D with hD | hD
   ·exact .inl (imn hD l2)
   ·exact .inr (by have := imn (show 0 <= -D by omega) (show 0 <= -lo by omega); rwa [Int.neg_mul_neg] at this)
  have s1 := sgn (bx - ax) (m * Y0 - ((m - n) * ay + n * b2)) (m * Y1 - ((m - n) * ay + n * b2)) (by omega) (by omega)
  have s2 := sgn (-(b2 - ay)) (m * X0 - ((m - n) * ax + n * bx)) (m * X1 - ((m - n) * ax + n * bx)) (by omega) (by omega)
  rw [Int.neg_mul, Int.neg_mul] at s2
  rcases s1 with s1 | s1 <;> rcases s2 with s2 | s2
  ·exact ⟨X1, Y1, .inr rfl, .inr rfl, cK h3 (by rw [es]; omega)⟩
  ·exact ⟨X0, Y1, .inl rfl, .inr rfl, cK h3 (by rw [es]; omega)⟩
  ·exact ⟨X1, Y0, .inr rfl, .inl rfl, cK h3 (by rw [es]; omega)⟩
  ·exact ⟨X0, Y0, .inl rfl, .inl rfl, cK h3 (by rw [es]; omega)⟩
 ·have sgn : ∀ D lo hi : Int, lo <= 0 -> 0 <= hi -> D * hi <= 0 ∨ D * lo <= 0 := fun D lo hi l1 l2 => by
   rcases Int.le_total 0 D with hD | hD
   ·exact .inr (by have := imn hD (show 0 <= -lo by omega); rw [Int.mul_neg] at this; omega)
   ·exact .inl (by have := imn (show 0 <= -D by omega) l2; rw [Int.neg_mul] at this; omega)
  have s1 := sgn (bx - ax) (m * Y0 - ((m - n) * ay + n * b2)) (m * Y1 - ((m - n) * ay + n * b2)) (by omega) (by omega)
  have s2 := sgn (-(b2 - ay)) (m * X0 - ((m - n) * ax + n * bx)) (m * X1 - ((m - n) * ax + n * bx)) (by omega) (by omega)
  rw [Int.neg_mul, Int.neg_mul] at s2
  rcases s1 with s1 | s1 <;> rcases s2 with s2 | s2
  ·exact ⟨X1, Y1, .inr rfl, .inr rfl, cK h3 (by rw [es]; omega)⟩
  ·exact ⟨X0, Y1, .inl rfl, .inr rfl, cK h3 (by rw [es]; omega)⟩
  ·exact ⟨X1, Y0, .inr rfl, .inl rfl, cK h3 (by rw [es]; omega)⟩
  ·exact ⟨X0, Y0, .inl rfl, .inl rfl, cK h3 (by rw [es]; omega)⟩
end
noncomputable section
section
variable {ax ay bx b2 px py r n m k X0 Y0 X1 Y1 : Int}
def nO (ax ay bx b2 X0 Y0 X1 Y1 : Int) : Prop := (∃ cx cy, (cx = X0 ∨ cx = X1) /\ (cy = Y0 ∨ cy = Y1) /\ 0 <= sd ax ay bx b2 cx cy) /\ ∃ cx cy, (cx = X0 ∨ cx = X1) /\ (cy = Y0 ∨ cy = Y1) /\ sd ax ay bx b2 cx cy <= 0
theorem jS.rx (h : jS (-ax) ay (-bx) b2 (-X1) Y0 (-X0) Y1) : jS ax ay bx b2 X0 Y0 X1 Y1 := by
 obtain ⟨n, m, h1, h2, h3, h4, h5⟩ := h
 refine ⟨n, m, h1, h2, h3, ?_, h5⟩
 have e : (m - n) * -ax + n * -bx = -((m - n) * ax + n * bx) := by grind
 rw [e, Int.mul_neg, Int.mul_neg] at h4
 omega
theorem jS.ry (h : jS ax (-ay) bx (-b2) X0 (-Y1) X1 (-Y0)) : jS ax ay bx b2 X0 Y0 X1 Y1 := by
 obtain ⟨n, m, h1, h2, h3, h4, h5⟩ := h
 refine ⟨n, m, h1, h2, h3, h4, ?_⟩
 have e : (m - n) * -ay + n * -b2 = -((m - n) * ay + n * b2) := by grind
 rw [e, Int.mul_neg, Int.mul_neg] at h5
 omega
theorem nO.rx (h : nO ax ay bx b2 X0 Y0 X1 Y1) : nO (-ax) ay (-bx) b2 (-X1) Y0 (-X0) Y1 := by
 have e : ∀ cx cy, sd (-ax) ay (-bx) b2 (-cx) cy = -sd ax ay bx b2 cx cy := fun cx cy => by unfold sd; grind
 obtain ⟨⟨cx, cy, h1, h2, h3⟩, dx, dy, g1, g2, g3⟩ := h
 exact ⟨⟨-dx, dy, by omega, g2, by rw [e]; omega⟩, -cx, cy, by omega, h2, by rw [e]; omega⟩
theorem nO.ry (h : nO ax ay bx b2 X0 Y0 X1 Y1) : nO ax (-ay) bx (-b2) X0 (-Y1) X1 (-Y0) := by
 have e : ∀ cx cy, sd ax (-ay) bx (-b2) cx (-cy) = -sd ax ay bx b2 cx cy := fun cx cy => by unfold sd; grind
 obtain ⟨⟨cx, cy, h1, h2, h3⟩, dx, dy, g1, g2, g3⟩ := h
 exact ⟨⟨dx, -dy, g1, by omega, by rw [e]; omega⟩, cx, -cy, h1, by omega, by rw [e]; omega⟩
theorem Dd (hX : X0 <= X1) (hY : Y0 <= Y1) (hB : Bx ax ay bx b2 X0 Y0 X1 Y1) (hS : nO ax ay bx b2 X0 Y0 X1 Y1) (hx : ax <= bx) (hy : ay <= b2) : jS ax ay bx b2 X0 Y0 X1 Y1 := by
 unfold Bx at hB
 have hdx : 0 <= bx - ax := by omega
 have hdy : 0 <= b2 - ay := by omega
 obtain ⟨⟨cx, cy, s1, s2, s3⟩, ex, ey, t1, t2, t3⟩ := hS
 unfold sd at s3 t3
 -- the way to a corner
 have up : ∀ cx cy : Int, (cx = X0 ∨ cx = X1) -> (cy = Y0 ∨ cy = Y1) -> (bx - ax) * (cy - ay) <= (bx - ax) * (Y1 - ay) /\ (bx - ax) * (Y0 - ay) <= (bx - ax) * (cy - ay) /\ (b2 - ay) * (X0 - ax) <= (b2 - ay) * (cx - ax) /\ (b2 - ay) * (cx - ax) <= (b2 - ay) * (X1 - ax) := fun cx cy h1 h2 =>
  ⟨iml (by omega) hdx, iml (by omega) hdx, iml (by omega) hdy, iml (by omega) hdy⟩
 have u1 := up cx cy s1 s2
 have u2 := up ex ey t1 t2
 have main : ∀ N D : Int, 0 <= N -> N <= D -> 0 < D -> (D * (X0 - ax) <= N * (bx - ax) /\ N * (bx - ax) <= D * (X1 - ax)) -> (D * (Y0 - ay) <= N * (b2 - ay) /\ N * (b2 - ay) <= D * (Y1 - ay)) -> jS ax ay bx b2 X0 Y0 X1 Y1 := fun N D h1 h2 h3 h4 h5 => by
  have e1 : (D - N) * ax + N * bx = D * ax + N * (bx - ax) := by grind
  have e2 : (D - N) * ay + N * b2 = D * ay + N * (b2 - ay) := by grind
  rw [Int.mul_sub D, Int.mul_sub D] at h4 h5
  exact ⟨N, D, h1, h2, h3, by rw [e1]; omega, by rw [e2]; omega⟩
 by_cases a1 : ax < X0
 ·by_cases a2 : (bx - ax) * (Y0 - ay) <= (X0 - ax) * (b2 - ay)
  ·have hD : 0 < bx - ax := by omega
   have c1 : (b2 - ay) * (X0 - ax) = (X0 - ax) * (b2 - ay) := Int.mul_comm ..
   refine main (X0 - ax) (bx - ax) (by omega) (by omega) hD ⟨by rw [Int.mul_comm]; exact Int.le_refl _, ?_⟩ ⟨a2, by omega⟩
   rw [Int.mul_comm]; exact iml (by omega) hdx
  ·have a3 : ay < Y0 := by
    apply Classical.byContradiction; intro hn
    have k1 := imn hdx (show 0 <= ay - Y0 by omega)
    have k2 := imn (show 0 <= X0 - ax by omega) hdy
    have e : (bx - ax) * (ay - Y0) = -((bx - ax) * (Y0 - ay)) := by grind
    omega
   have hD : 0 < b2 - ay := by omega
   have c1 : (b2 - ay) * (X0 - ax) = (X0 - ax) * (b2 - ay) := Int.mul_comm ..
   have c2 : (bx - ax) * (Y0 - ay) = (Y0 - ay) * (bx - ax) := Int.mul_comm ..
   refine main (Y0 - ay) (b2 - ay) (by omega) (by omega) hD ⟨by omega, by omega⟩ ⟨by rw [Int.mul_comm]; exact Int.le_refl _, ?_⟩
   rw [Int.mul_comm]; exact iml (by omega) hdy
 ·by_cases a3 : ay < Y0
  ·have hD : 0 < b2 - ay := by omega
   have c2 : (bx - ax) * (Y0 - ay) = (Y0 - ay) * (bx - ax) := Int.mul_comm ..
   refine main (Y0 - ay) (b2 - ay) (by omega) (by omega) hD ⟨?_, by omega⟩ ⟨by rw [Int.mul_comm]; exact Int.le_refl _, ?_⟩
   ·have k1 := imn hdy (show 0 <= ax - X0 by omega)
    have k2 := imn (show 0 <= Y0 - ay by omega) hdx
    have e : (b2 - ay) * (ax - X0) = -((b2 - ay) * (X0 - ax)) := by grind
    omega
   ·rw [Int.mul_comm]; exact iml (by omega) hdy
  ·exact ⟨0, 1, by omega, by omega, by omega, by omega, by omega⟩
theorem EL (h : Bx ax ay bx b2 X0 Y0 X1 Y1) : Bx (-ax) ay (-bx) b2 (-X1) Y0 (-X0) Y1 := by unfold Bx at *; omega
theorem EO (h : Bx ax ay bx b2 X0 Y0 X1 Y1) : Bx ax (-ay) bx (-b2) X0 (-Y1) X1 (-Y0) := by unfold Bx at *; omega
theorem AK (hX : X0 <= X1) (hY : Y0 <= Y1) (hB : Bx ax ay bx b2 X0 Y0 X1 Y1) (hS : nO ax ay bx b2 X0 Y0 X1 Y1) : jS ax ay bx b2 X0 Y0 X1 Y1 := by
 rcases Int.le_total ax bx with h1 | h1 <;> rcases Int.le_total ay b2 with h2 | h2
 ·exact Dd hX hY hB hS h1 h2
 ·exact jS.ry (Dd hX (by omega) (EO hB) hS.ry h1 (by omega))
 ·exact jS.rx (Dd (by omega) hY (EL hB) hS.rx (by omega) h2)
 ·exact jS.rx (jS.ry (Dd (by omega) (by omega) (EO (EL hB)) hS.rx.ry (by omega) (by omega)))
def Hit (ax ay bx b2 X0 Y0 X1 Y1 r : Int) : Prop := ∃ px py k, 0 < k /\ (k * X0 <= px /\ px <= k * X1) /\ (k * Y0 <= py /\ py <= k * Y1) /\ Nq ax ay bx b2 px py k r
theorem C0 (hr : 0 <= r) (hX : X0 <= X1) (hY : Y0 <= Y1) : Hit ax ay bx b2 X0 Y0 X1 Y1 r ↔ Res ax ay bx b2 X0 Y0 X1 Y1 r := by
 constructor
 ·rintro ⟨px, py, k, hk, ⟨h1, h2⟩, ⟨h3, h4⟩, h⟩
  exact zj hr hk hX hY h1 h2 h3 h4 h
 ·rintro (⟨cx, cy, h1, h2, h3⟩ | h | h | ⟨n, m, h1, h2, h3, h4, h5⟩)
  ·exact ⟨cx, cy, 1, by omega, by omega, by omega, h3⟩
  ·refine ⟨max X0 (min ax X1), max Y0 (min ay Y1), 1, by omega, by omega, by omega, 0, 1, by omega, by omega, by omega, ?_⟩
   unfold ls at h
   have ex : 1 * max X0 (min ax X1) - 1 * ((1 - 0) * ax + 0 * bx) = max X0 (min ax X1) - ax := by omega
   have ey : 1 * max Y0 (min ay Y1) - 1 * ((1 - 0) * ay + 0 * b2) = max Y0 (min ay Y1) - ay := by omega
   rw [ex, ey, show 1 * 1 * r = r by omega]
   refine Int.le_trans ?_ h
   unfold q2
   have k1 : (max X0 (min ax X1) - ax) * (max X0 (min ax X1) - ax) <= max (max (X0 - ax) 0) (ax - X1) * max (max (X0 - ax) 0) (ax - X1) := by
    rcases Int.le_total 0 (max X0 (min ax X1) - ax) with h0 | h0
    ·exact jd h0 (.inl (by omega))
    ·have := jd (a := -(max X0 (min ax X1) - ax)) (b := max (max (X0 - ax) 0) (ax - X1)) (by omega) (.inl (by omega))
     rwa [Int.neg_mul_neg] at this
   have k2 : (max Y0 (min ay Y1) - ay) * (max Y0 (min ay Y1) - ay) <= max (max (Y0 - ay) 0) (ay - Y1) * max (max (Y0 - ay) 0) (ay - Y1) := by
    rcases Int.le_total 0 (max Y0 (min ay Y1) - ay) with h0 | h0
    ·exact jd h0 (.inl (by omega))
    ·have := jd (a := -(max Y0 (min ay Y1) - ay)) (b := max (max (Y0 - ay) 0) (ay - Y1)) (by omega) (.inl (by omega))
     rwa [Int.neg_mul_neg] at this
   omega
  ·refine ⟨max X0 (min bx X1), max Y0 (min b2 Y1), 1, by omega, by omega, by omega, 1, 1, by omega, by omega, by omega, ?_⟩
   unfold ls at h
   have ex : 1 * max X0 (min bx X1) - 1 * ((1 - 1) * ax + 1 * bx) = max X0 (min bx X1) - bx := by omega
   have ey : 1 * max Y0 (min b2 Y1) - 1 * ((1 - 1) * ay + 1 * b2) = max Y0 (min b2 Y1) - b2 := by omega
   rw [ex, ey, show 1 * 1 * r = r by omega]
   refine Int.le_trans ?_ h
   unfold q2
   have k1 : (max X0 (min bx X1) - bx) * (max X0 (min bx X1) - bx) <= max (max (X0 - bx) 0) (bx - X1) * max (max (X0 - bx) 0) (bx - X1) := by
    rcases Int.le_total 0 (max X0 (min bx X1) - bx) with h0 | h0
    ·exact jd h0 (.inl (by omega))
    ·have := jd (a := -(max X0 (min bx X1) - bx)) (b := max (max (X0 - bx) 0) (bx - X1)) (by omega) (.inl (by omega))
     rwa [Int.neg_mul_neg] at this
   have k2 : (max Y0 (min b2 Y1) - b2) * (max Y0 (min b2 Y1) - b2) <= max (max (Y0 - b2) 0) (b2 - Y1) * max (max (Y0 - b2) 0) (b2 - Y1) := by
    rcases Int.le_total 0 (max Y0 (min b2 Y1) - b2) with h0 | h0
    ·exact jd h0 (.inl (by omega))
    ·have := jd (a := -(max Y0 (min b2 Y1) - b2)) (b := max (max (Y0 - b2) 0) (b2 - Y1)) (by omega) (.inl (by omega))
     rwa [Int.neg_mul_neg] at this
   omega
  ·refine ⟨(m - n) * ax + n * bx, (m - n) * ay + n * b2, m, h3, h4, h5, n, m, h1, h2, h3, ?_⟩
   rw [Int.sub_self, Int.sub_self]
   have := sq0 (m * m * r)
   unfold q2; omega
end
end
abbrev P2 := Int × Int
def sdp (a b p : P2) : Int := sd a.1 a.2 b.1 b.2 p.1 p.2
def ltP (a b : P2) : Prop := a.1 < b.1 ∨ (a.1 = b.1 /\ a.2 < b.2)
def leP (a b : P2) : Prop := a.1 < b.1 ∨ (a.1 = b.1 /\ a.2 <= b.2)
def Pv (x y : Int) : Prop := 0 < x ∨ (x = 0 /\ 0 < y)
theorem vK {k a : Int} (hk : 0 < k) (h : 0 < k * a) : 0 < a := by
 apply Classical.byContradiction; intro hn
 have := imn (Int.le_of_lt hk) (show 0 <= -a by omega)
 rw [Int.mul_neg] at this; omega
section
variable {ux uy vx vy wx wy : Int}
theorem crT (hu : Pv ux uy) (hv : Pv vx vy) (hw : Pv wx wy) (h1 : 0 <= ux * vy - uy * vx) (h2 : 0 <= vx * wy - vy * wx) : 0 <= ux * wy - uy * wx := by
 unfold Pv at *
 rcases hv with hv | ⟨rfl, hv⟩
 ·have e : vx * (ux * wy - uy * wx) = wx * (ux * vy - uy * vx) + ux * (vx * wy - vy * wx) := by grind
  have k1 := imn (show 0 <= wx by omega) h1
  have k2 := imn (show 0 <= ux by omega) h2
  exact cK hv (by rw [Int.mul_zero]; omega)
 ·have k3 : 0 <= vy * wx := imn (by omega) (by omega)
  have : wx = 0 := by
   rcases Int.mul_eq_zero.1 (show vy * wx = 0 by omega) with h | h <;> omega
  subst this
  have := imn (show 0 <= ux by omega) (show 0 <= wy by omega)
  omega
theorem crS (hu : Pv ux uy) (hv : Pv vx vy) (hw : Pv wx wy) (h1 : 0 < ux * vy - uy * vx) (h2 : 0 < vx * wy - vy * wx) : 0 < ux * wy - uy * wx := by
 unfold Pv at *
 rcases hv with hv | ⟨rfl, hv⟩
 ·have e : vx * (ux * wy - uy * wx) = wx * (ux * vy - uy * vx) + ux * (vx * wy - vy * wx) := by grind
  have k1 := imn (show 0 <= wx by omega) (Int.le_of_lt h1)
  have k2 := imn (show 0 <= ux by omega) (Int.le_of_lt h2)
  by_cases hz : wx = 0 /\ ux = 0
  ·obtain ⟨rfl, rfl⟩ := hz
   have := imn (show 0 <= uy by omega) (Int.le_of_lt hv)
   omega
  ·refine vK hv ?_
   rcases (show 0 < wx ∨ 0 < ux by omega) with h | h
   ·have := Int.mul_pos h h1; omega
   ·have := Int.mul_pos h h2; omega
 ·have k3 : 0 <= vy * wx := imn (by omega) (by omega)
  omega
end
section
variable {a b c p q t a' : P2}
theorem gg (h : ltP a b) : Pv (b.1 - a.1) (b.2 - a.2) := by unfold ltP at h; unfold Pv; omega
theorem mU (h1 : ltP a b) (h2 : ltP b c) : ltP a c := by unfold ltP at *; omega
theorem A7 (h1 : ltP a b) (h2 : leP b c) : ltP a c := by unfold ltP leP at *; omega
theorem lH (h1 : leP a b) (h2 : ltP b c) : ltP a c := by unfold ltP leP at *; omega
theorem ny (h1 : ltP a b) : leP a b := by unfold ltP leP at *; omega
theorem jX (a : P2) : leP a a := by unfold leP; omega
theorem eX (a : P2) : ¬ ltP a a := by unfold ltP; omega
theorem kG (a b : P2) : ltP a b ∨ a = b ∨ ltP b a := by
 by_cases h : a.1 = b.1 /\ a.2 = b.2
 ·exact .inr (.inl (Prod.ext h.1 h.2))
 ·unfold ltP; omega
theorem vv (h1 : leP a b) (h2 : leP b a) : a = b := by
 unfold leP at *; exact Prod.ext (by omega) (by omega)
theorem EG (a b : P2) : sdp a b a = 0 := by unfold sdp sd; grind
theorem Bc (a b : P2) : sdp a b b = 0 := by unfold sdp sd; grind
theorem mw (a b p : P2) : sdp b a p = -sdp a b p := by unfold sdp sd; grind
theorem D3 (h1 : ltP a t) (h2 : ltP a q) (h3 : ltP a p) (h4 : 0 <= sdp a t q) (h5 : sdp a t p <= 0) : 0 <= sdp a p q := by
 have k := crT (gg h3) (gg h1) (gg h2) (by unfold sdp sd at h5; grind) (by unfold sdp sd at h4; grind)
 unfold sdp sd; exact k
theorem Dy (h1 : ltP a b) (h2 : ltP q b) (h3 : ltP b p) (h4 : 0 <= sdp a b q) (h5 : 0 < sdp a b p) : 0 <= sdp b p q := by
 have e4 : sdp a b q = (b.1 - q.1) * (b.2 - a.2) - (b.2 - q.2) * (b.1 - a.1) := by unfold sdp sd; grind
 have e5 : sdp a b p = (b.1 - a.1) * (p.2 - b.2) - (b.2 - a.2) * (p.1 - b.1) := by unfold sdp sd; grind
 have e6 : sdp b p q = (b.1 - q.1) * (p.2 - b.2) - (b.2 - q.2) * (p.1 - b.1) := by unfold sdp sd; grind
 rw [e4] at h4; rw [e5] at h5; rw [e6]
 exact crT (gg h2) (gg h1) (gg h3) h4 (Int.le_of_lt h5)
theorem Jn (h1 : ltP a' a) (h2 : ltP a b) (h3 : ltP b p) (h4 : 0 < sdp a' a b) (h5 : 0 < sdp a b p) : 0 < sdp a' a p := by
 have e4 : sdp a' a b = (a.1 - a'.1) * (b.2 - a.2) - (a.2 - a'.2) * (b.1 - a.1) := by unfold sdp sd; grind
 have e5 : sdp a b p = (b.1 - a.1) * (p.2 - b.2) - (b.2 - a.2) * (p.1 - b.1) := by unfold sdp sd; grind
 have e6 : sdp a' a p = sdp a' a b + ((a.1 - a'.1) * (p.2 - b.2) - (a.2 - a'.2) * (p.1 - b.1)) := by unfold sdp sd; grind
 rw [e6]
 have := crS (gg h1) (gg h2) (gg h3) (by rw [← e4]; exact h4) (by rw [← e5]; exact h5)
 omega
end
def jw (p : P2) : List P2 -> List P2
 | b :: a :: l => bif decide (sdp a b p <= 0) then jw p (a :: l) else b :: a :: l
 | l => l
def aE : List P2 -> List P2 -> List P2
 | st, [] => st
 | st, p :: l => aE (p :: jw p st) l
def Ch (D : P2 -> Prop) : List P2 -> Prop
 | [] => False
 | [s] => D s /\ ∀ q, D q -> leP s q
 | b :: a :: l => ltP a b /\ D b /\ (∀ q, D q -> 0 <= sdp a b q) /\ (∀ c, l.head? = some c -> 0 < sdp c a b) /\ Ch D (a :: l)
theorem Ch.cong {D D' : P2 -> Prop} (h : ∀ q, D q ↔ D' q) {l : List P2} (hc : Ch D l) : Ch D' l := by
 rwa [show D' = D from funext fun q => propext (h q).symm]
theorem BH {D : P2 -> Prop} {p : P2} (hp : ∀ q, D q -> ltP q p) : ∀ (l : List P2) (a b : P2), Ch D (b :: a :: l) -> 0 < sdp a b p -> Ch (fun q => D q ∨ q = p) (b :: a :: l)
 | [], a, b, h, h2 => by
   obtain ⟨h3, h4, h5, h6, h7, h8⟩ := h
   refine ⟨h3, .inl h4, ?_, h6, .inl h7, ?_⟩
   ·rintro q (hq | rfl)
    ·exact h5 q hq
    ·exact Int.le_of_lt h2
   ·rintro q (hq | rfl)
    ·exact h8 q hq
    ·exact ny (hp _ h7)
 | c :: l, a, b, h, h2 => by
   obtain ⟨h3, h4, h5, h6, h7⟩ := h
   refine ⟨h3, .inl h4, ?_, h6, ?_⟩
   ·rintro q (hq | rfl)
    ·exact h5 q hq
    ·exact Int.le_of_lt h2
   ·exact BH hp l c a h7 (Jn h7.1 h3 (hp _ h4) (h6 c rfl) h2)
theorem Cv {D : P2 -> Prop} {p : P2} (hp : ∀ q, D q -> ltP q p) : ∀ (l : List P2) (t : P2), Ch D (t :: l) -> (∀ q, D q -> ltP t q -> 0 <= sdp t p q) -> Ch (fun q => D q ∨ q = p) (p :: jw p (t :: l))
 | [], t, h, h2 => by
   obtain ⟨h3, h4⟩ := h
   refine ⟨hp _ h3, .inr rfl, ?_, (fun c hc => by cases hc), .inl h3, ?_⟩
   ·rintro q (hq | rfl)
    ·rcases kG t q with k | rfl | k
     ·exact h2 q hq k
     ·rw [EG]; omega
     ·exact (eX _ (lH (h4 q hq) k)).elim
    ·rw [Bc]; omega
   ·rintro q (hq | rfl)
    ·exact h4 q hq
    ·exact ny (hp _ h3)
 | a :: l, t, h, h2 => by
   have h' := h
   obtain ⟨h3, h4, h5, h6, h7⟩ := h
   have ha : D a := by cases l with
    | nil => exact h7.1
    | cons c l => exact h7.2.1
   unfold jw
   by_cases hs : sdp a t p <= 0
   ·rw [dqt hs, cond_true]
    exact Cv hp l a h7 fun q hq hlt => D3 h3 hlt (hp _ ha) (h5 q hq) hs
   ·rw [dqf hs, cond_false]
    refine ⟨hp _ h4, .inr rfl, ?_, ?_, BH hp l a t h' (by omega)⟩
    ·rintro q (hq | rfl)
     ·rcases kG t q with k | rfl | k
      ·exact h2 q hq k
      ·rw [EG]; omega
      ·exact Dy h3 k (hp _ h4) (h5 q hq) (by omega)
     ·rw [Bc]; omega
    ·intro c hc
     simp only [List.head?_cons, Option.some.injEq] at hc
     subst hc; omega
theorem tG : ∀ (l : List P2) (D : P2 -> Prop) (t : P2) (st : List P2), Ch D (t :: st) -> (∀ q, D q -> leP q t) -> (∀ p ∈ l, ltP t p) -> l.Pairwise ltP ->
 ∃ z r, aE (t :: st) l = z :: r /\ Ch (fun q => D q ∨ q ∈ l) (z :: r) /\ ∀ q, (D q ∨ q ∈ l) -> leP q z
 | [], D, t, st, h1, h2, _, _ => ⟨t, st, rfl, h1.cong (by simp), by simpa using h2⟩
 | p :: l, D, t, st, h1, h2, h3, h4 => by
   have hp : ∀ q, D q -> ltP q p := fun q hq => lH (h2 q hq) (h3 p (by simp))
   have k := Cv hp st t h1 fun q hq hlt => (eX _ (lH (h2 q hq) hlt)).elim
   rw [List.pairwise_cons] at h4
   obtain ⟨z, r, e, hc, hz⟩ := tG l _ p _ k (fun q hq => by
    rcases hq with hq | rfl
    ·exact ny (hp q hq)
    ·exact jX _) h4.1 h4.2
   refine ⟨z, r, e, hc.cong fun q => ?_, fun q hq => hz q ?_⟩
   ·simp only [List.mem_cons]; constructor
    ·rintro ((h | h) | h)
     ·exact .inl h
     ·exact .inr (.inl h)
     ·exact .inr (.inr h)
    ·rintro (h | h | h)
     ·exact .inl (.inl h)
     ·exact .inl (.inr h)
     ·exact .inr h
   ·simp only [List.mem_cons] at hq
    rcases hq with h | h | h
    ·exact .inl (.inl h)
    ·exact .inl (.inr h)
    ·exact .inr h
theorem Cr {m : P2} {l : List P2} (h : (m :: l).Pairwise ltP) : ∃ z r, aE [] (m :: l) = z :: r /\ Ch (fun q => q ∈ m :: l) (z :: r) /\ ∀ q, q ∈ m :: l -> leP q z := by
 rw [List.pairwise_cons] at h
 obtain ⟨z, r, e, hc, hz⟩ := tG l (fun q => q = m) m [] ⟨rfl, fun q hq => by rw [hq]; exact jX _⟩ (fun q hq => by rw [hq]; exact jX _) h.1 h.2
 exact ⟨z, r, e, hc.cong (by simp), fun q hq => hz q (by simpa using hq)⟩
def Adj : List P2 -> P2 -> P2 -> Prop
 | b :: a :: l, x, y => (x = a /\ y = b) ∨ Adj (a :: l) x y
 | _, _, _ => False
def ml : List P2 -> P2
 | [] => (0, 0)
 | [s] => s
 | _ :: a :: l => ml (a :: l)
section
variable {D : P2 -> Prop}
theorem eR : ∀ {st : List P2}, Ch D st -> ∀ q ∈ st, D q
 | [s], h, q, hq => by simp at hq; subst hq; exact h.1
 | b :: a :: l, h, q, hq => by
   rcases List.mem_cons.1 hq with rfl | hq
   ·exact h.2.1
   ·exact eR h.2.2.2.2 q hq
theorem td : ∀ {st : List P2} {x y : P2}, Adj st x y -> x ∈ st /\ y ∈ st
 | b :: a :: l, x, y, h => by
   rcases h with ⟨rfl, rfl⟩ | h
   ·simp
   ·have := td h
    exact ⟨List.mem_cons_of_mem _ this.1, List.mem_cons_of_mem _ this.2⟩
theorem gy : ∀ {st : List P2} {x y : P2}, Ch D st -> Adj st x y -> ltP x y /\ ∀ q, D q -> 0 <= sdp x y q
 | b :: a :: l, x, y, h, ha => by
   rcases ha with ⟨rfl, rfl⟩ | ha
   ·exact ⟨h.1, h.2.2.1⟩
   ·exact gy h.2.2.2.2 ha
theorem BQ : ∀ {st : List P2} {t x y : P2}, Ch D (t :: st) -> Adj (t :: st) x y -> leP y t
 | a :: l, t, x, y, h, ha => by
   rcases ha with ⟨rfl, rfl⟩ | ha
   ·exact jX _
   ·have := BQ h.2.2.2.2 ha
    exact ny (lH this h.1)
theorem oV : ∀ {st : List P2} {t x y : P2}, Ch D (t :: st) -> Adj (t :: st) x y -> y = t ∨ ∃ c, Adj (t :: st) y c /\ 0 < sdp x y c
 | [], t, x, y, h, ha => ha.elim
 | a :: l, t, x, y, h, ha => by
   rcases ha with ⟨rfl, rfl⟩ | ha
   ·exact .inl rfl
   ·right
    rcases oV h.2.2.2.2 ha with rfl | ⟨c, h1, h2⟩
    ·refine ⟨t, .inl ⟨rfl, rfl⟩, ?_⟩
     cases l with
     | nil => exact ha.elim
     | cons c l =>
       rcases ha with ⟨rfl, _⟩ | ha
       ·exact h.2.2.2.1 _ rfl
       ·-- y is the top of this chain, and so it is the first pair
        have := BQ h.2.2.2.2.2.2.2.2 ha
        exact (eX _ (A7 h.2.2.2.2.1 this)).elim
    ·exact ⟨c, .inr h1, h2⟩
theorem pB : ∀ {st : List P2} {x y : P2}, Ch D st -> Adj st x y -> x = ml st ∨ ∃ c, Adj st c x /\ 0 < sdp c x y
 | [b, a], x, y, h, ha => by
   rcases ha with ⟨rfl, rfl⟩ | ha
   ·exact .inl rfl
   ·exact ha.elim
 | b :: a :: c :: l, x, y, h, ha => by
   rcases ha with ⟨rfl, rfl⟩ | ha
   ·exact .inr ⟨c, .inr (.inl ⟨rfl, rfl⟩), h.2.2.2.1 _ rfl⟩
   ·rcases pB h.2.2.2.2 ha with e | ⟨d, h1, h2⟩
    ·exact .inl e
    ·exact .inr ⟨d, .inr h1, h2⟩
theorem sX : ∀ {st : List P2}, 2 <= st.length -> ∃ b, Adj st (ml st) b
 | [b, a], _ => ⟨b, .inl ⟨rfl, rfl⟩⟩
 | b :: a :: c :: l, _ => let ⟨d, h⟩ := sX (st := a :: c :: l) (by simp); ⟨d, .inr h⟩
theorem jv {a b : P2} {l : List P2} : Adj (b :: a :: l) a b := .inl ⟨rfl, rfl⟩
theorem wt : ∀ {st : List P2}, Ch D st -> D (ml st) /\ ∀ q, D q -> leP (ml st) q
 | [s], h => h
 | b :: a :: l, h => wt (st := a :: l) h.2.2.2.2
end
def ngP (p : P2) : P2 := (-p.1, -p.2)
theorem jf (a b p : P2) : sdp (ngP a) (ngP b) (ngP p) = sdp a b p := by unfold sdp sd ngP; grind
theorem cE (p : P2) : ngP (ngP p) = p := by unfold ngP; simp
theorem sL {a b : P2} (h : ltP a b) : ltP (ngP b) (ngP a) := by unfold ltP ngP at *; simp only; omega
theorem xQ (p : P2) : ∀ st : List P2, jw (ngP p) (st.map ngP) = (jw p st).map ngP
 | [] => rfl
 | [_] => rfl
 | b :: a :: l => by
   have ih := xQ p (a :: l)
   simp only [List.map_cons] at ih
   simp only [List.map_cons, jw, jf]
   cases decide (sdp a b p <= 0)
   ·rfl
   ·exact ih
theorem rq : ∀ (l st : List P2), aE (st.map ngP) (l.map ngP) = (aE st l).map ngP
 | [], st => rfl
 | p :: l, st => by
   simp only [List.map_cons, aE]
   rw [← rq l]
   simp only [List.map_cons, xQ]
theorem tf : ∀ {st : List P2} {x y : P2}, Adj (st.map ngP) x y ↔ Adj st (ngP x) (ngP y)
 | [], x, y => Iff.rfl
 | [_], x, y => Iff.rfl
 | b :: a :: l, x, y => by
   have ih := tf (st := a :: l) (x := x) (y := y)
   simp only [List.map_cons] at ih
   simp only [List.map_cons, Adj, ih]
   have e : ∀ u v : P2, u = ngP v ↔ ngP u = v := fun u v => ⟨fun h => by rw [h, cE], fun h => by rw [← h, cE]⟩
   rw [e, e]
section
variable {a b c p q z m x y w d : P2} {D : P2 -> Prop}
theorem BO (ha : ltP a z) (hc : ltP c z) (h0 : sdp a z c = 0) (hq : leP q z) (h1 : 0 <= sdp a z q) (h2 : 0 <= sdp z c q) : sdp a z q = 0 := by
 rcases kG q z with k | rfl | k
 ·have e1 : sdp a z q = -((z.1 - a.1) * (z.2 - q.2) - (z.2 - a.2) * (z.1 - q.1)) := by unfold sdp sd; grind
  have e2 : sdp z c q = (z.1 - c.1) * (z.2 - q.2) - (z.2 - c.2) * (z.1 - q.1) := by unfold sdp sd; grind
  have e3 : sdp a z c = -((z.1 - a.1) * (z.2 - c.2) - (z.2 - a.2) * (z.1 - c.1)) := by unfold sdp sd; grind
  rw [e3] at h0; rw [e2] at h2; rw [e1] at h1
  have := crT (gg ha) (gg hc) (gg k) (by omega) h2
  rw [e1]; omega
 ·exact Bc _ _
 ·exact (eX _ (lH hq k)).elim
theorem Fu (h : ltP a z) : ¬ (z.1 - a.1 = 0 /\ z.2 - a.2 = 0) := by unfold ltP at h; omega
theorem In (h : ltP a z) (hx : sdp a z x = 0) (hy : sdp a z y = 0) (hw : sdp a z w = 0) : sdp x y w = 0 := by
 have k1 : (z.1 - a.1) * sdp x y w = (w.1 - x.1) * (sdp a z x - sdp a z y) + (y.1 - x.1) * (sdp a z w - sdp a z x) := by unfold sdp sd; grind
 have k2 : (z.2 - a.2) * sdp x y w = (w.2 - x.2) * (sdp a z x - sdp a z y) + (y.2 - x.2) * (sdp a z w - sdp a z x) := by unfold sdp sd; grind
 rw [hx, hy, hw] at k1 k2
 simp only [Int.sub_self, Int.mul_zero, Int.add_zero] at k1 k2
 have hn := Fu h
 rcases Int.mul_eq_zero.1 k1 with e | e
 ·rcases Int.mul_eq_zero.1 k2 with e' | e'
  ·exact (hn ⟨e, e'⟩).elim
  ·exact e'
 ·exact e
end
structure eS (D : P2 -> Prop) (A B : List P2) (z m : P2) : Prop where
 cA : Ch D A
 cB : Ch (fun q => D (ngP q)) (B.map ngP)
 tA : ∃ r, A = z :: r
 tB : ∃ r, B = m :: r
 bA : ml A = m
 bB : ml B = z
 zm : ltP m z
 hz : ∀ q, D q -> leP q z
 hm : ∀ q, D q -> leP m q
theorem vC : ∀ {st : List P2}, st ≠ [] -> ml (st.map ngP) = ngP (ml st)
 | [s], _ => rfl
 | b :: a :: l, _ => vC (st := a :: l) (by simp)
theorem wF {a b : P2} (h : leP a b) : leP (ngP b) (ngP a) := by unfold leP ngP at *; simp only; omega
theorem Hr {l : List P2} (h : l.Pairwise ltP) : (l.reverse.map ngP).Pairwise ltP := by
 rw [List.pairwise_map, List.pairwise_reverse]
 exact h.imp fun h => sL h
theorem sA {m : P2} {l : List P2} (hs : (m :: l).Pairwise ltP) (h2 : l ≠ []) : ∃ z, eS (fun q => q ∈ m :: l) (aE [] (m :: l)) (aE [] (m :: l).reverse) z m := by
 obtain ⟨z, r, e, hc, hz⟩ := Cr hs
 have hb := wt hc
 have hmm : ∀ q ∈ m :: l, leP m q := by
  intro q hq
  rcases List.mem_cons.1 hq with rfl | hq
  ·exact jX _
  ·exact ny ((List.pairwise_cons.1 hs).1 q hq)
 have hbm : ml (z :: r) = m := vv (hb.2 m (by simp)) (hmm _ hb.1)
 have hs2 := Hr hs
 have hD : ∀ q, q ∈ ((m :: l).reverse.map ngP) ↔ ngP q ∈ m :: l := fun q => by
  rw [List.mem_map]
  constructor
  ·rintro ⟨p, hp, rfl⟩; rw [cE]; exact List.mem_reverse.1 hp
  ·intro hq; exact ⟨ngP q, List.mem_reverse.2 hq, cE q⟩
 have k : ∃ x t, (m :: l).reverse.map ngP = x :: t := by
  cases hr : (m :: l).reverse.map ngP with
  | nil => simp at hr
  | cons x t => exact ⟨x, t, rfl⟩
 obtain ⟨x, t, ex⟩ := k
 have hs3 := hs2
 rw [ex] at hs3
 obtain ⟨z', r', e', hc', hz'⟩ := Cr hs3
 rw [← ex] at e' hc' hz'
 have en := rq (m :: l).reverse []
 simp only [List.map_nil] at en
 rw [en] at e'
 have hc2 := hc'.cong hD
 rw [← e'] at hc2
 have hB : ∃ rB, aE [] (m :: l).reverse = m :: rB := by
  cases hB : aE [] (m :: l).reverse with
  | nil => rw [hB] at e'; simp at e'
  | cons b rB =>
    rw [hB] at e'
    simp only [List.map_cons, List.cons.injEq] at e'
    have k1 := hz' (ngP m) ((hD _).2 (by rw [cE]; simp))
    have k2 : ngP z' ∈ m :: l := by
     have : z' ∈ (m :: l).reverse.map ngP := eR hc' z' (by simp)
     exact (hD _).1 this
    have k3 := wF k1
    rw [cE, ← e'.1, cE] at k3
    rw [← e'.1, cE] at k2
    exact ⟨rB, by rw [vv k3 (hmm _ k2)]⟩
 refine ⟨z, ⟨by rw [e]; exact hc, hc2, ⟨r, e⟩, hB, by rw [e]; exact hbm, ?_, ?_, hz, hmm⟩⟩
 ·obtain ⟨rB, eB⟩ := hB
  have hb2 := wt hc2
  rw [vC (by rw [eB]; simp)] at hb2
  have k1 := hb2.2 (ngP z) (by show ngP (ngP z) ∈ _; rw [cE]; exact eR hc z (by simp))
  have k2 := wF k1
  rw [cE, cE] at k2
  have k3 := hb2.1
  rw [show (ngP (ngP (ml (aE [] (m :: l).reverse)))) = _ from cE _] at k3
  exact vv (hz _ k3) k2
 ·cases l with
  | nil => exact (h2 rfl).elim
  | cons y l =>
    have := (List.pairwise_cons.1 hs).1 y (by simp)
    exact A7 this (hz y (by simp))
section
variable {D : P2 -> Prop} {A B : List P2} {z m x y q : P2}
def Ed (A B : List P2) (x y : P2) : Prop := Adj A x y ∨ Adj B x y
theorem eS.adjB (h : eS D A B z m) (ha : Adj B x y) : Adj (B.map ngP) (ngP x) (ngP y) := tf.2 (by rw [cE, cE]; exact ha)
theorem eS.e1 (h : eS D A B z m) (he : Ed A B x y) : x ≠ y /\ D x /\ D y /\ ∀ q, D q -> 0 <= sdp x y q := by
 rcases he with ha | ha
 ·have k := gy h.cA ha
  have hm := td ha
  exact ⟨(fun e => by rw [e] at k; exact eX _ k.1), eR h.cA _ hm.1, eR h.cA _ hm.2, k.2⟩
 ·have ha' := h.adjB ha
  have k := gy h.cB ha'
  have hm := td ha'
  have k1 := eR h.cB _ hm.1
  have k2 := eR h.cB _ hm.2
  simp only [cE] at k1 k2
  refine ⟨(fun e => by rw [e] at k; exact eX _ k.1), k1, k2, fun q hq => ?_⟩
  have := k.2 (ngP q) (by rw [cE]; exact hq)
  rwa [jf] at this
theorem eS.lenA (h : eS D A B z m) : 2 <= A.length := by
 obtain ⟨r, e⟩ := h.tA
 cases r with
 | nil =>
   have := h.bA
   rw [e] at this
   simp only [ml] at this
   have k := h.zm; rw [this] at k
   exact (eX _ k).elim
 | cons a r => rw [e]; simp
theorem eS.lenB (h : eS D A B z m) : 2 <= B.length := by
 obtain ⟨r, e⟩ := h.tB
 cases r with
 | nil =>
   have := h.bB
   rw [e] at this
   simp only [ml] at this
   have k := h.zm; rw [this] at k
   exact (eX _ k).elim
 | cons a r => rw [e]; simp
def gY (D : P2 -> Prop) : Prop := ∃ x y w, D x /\ D y /\ D w /\ sdp x y w ≠ 0
theorem eS.bend (h : eS D A B z m) (h3 : 3 <= A.length ∨ 3 <= B.length) : gY D := by
 rcases h3 with h3 | h3
 ·match A, h.cA, h3 with
  | b :: a :: c :: l, hc, _ =>
    have k := hc.2.2.2.1 c rfl
    exact ⟨c, a, b, eR hc c (by simp), eR hc a (by simp), eR hc b (by simp), by omega⟩
 ·match B, h.cB, h3 with
  | b :: a :: c :: l, hc, _ =>
    have k := hc.2.2.2.1 (ngP c) rfl
    rw [jf] at k
    have k1 := eR hc (ngP c) (by simp)
    have k2 := eR hc (ngP a) (by simp)
    have k3 := eR hc (ngP b) (by simp)
    simp only [cE] at k1 k2 k3
    exact ⟨c, a, b, k1, k2, k3, by omega⟩
theorem qh {a z : P2} (hn : gY D) (hl : ltP a z) (h : ∀ q, D q -> sdp a z q = 0) : False := by
 obtain ⟨x, y, w, hx, hy, hw, hne⟩ := hn
 exact hne (In hl (h x hx) (h y hy) (h w hw))
theorem eS.jz (h : eS D A B z m) (hn : gY D) {a c : P2} (ha : Adj A a z) (hc : Adj B z c) : 0 < sdp a z c := by
 have e1 := h.e1 (.inl ha)
 have e2 := h.e1 (.inr hc)
 have l1 := (gy h.cA ha).1
 have l2 := (gy h.cB (h.adjB hc)).1
 have l3 := sL l2
 rw [cE, cE] at l3
 have k := e1.2.2.2 c e2.2.2.1
 by_cases h0 : sdp a z c = 0
 ·exact (qh hn l1 fun q hq => BO l1 l3 h0 (h.hz q hq) (e1.2.2.2 q hq) (e2.2.2.2 q hq)).elim
 ·omega
theorem eS.jm (h : eS D A B z m) (hn : gY D) {a c : P2} (ha : Adj B a m) (hc : Adj A m c) : 0 < sdp a m c := by
 have e1 := h.e1 (.inr ha)
 have e2 := h.e1 (.inl hc)
 have l1 := (gy h.cA hc).1
 have l2 := (gy h.cB (h.adjB ha)).1
 have k := e1.2.2.2 c e2.2.2.1
 by_cases h0 : sdp a m c = 0
 ·refine (qh hn (a := m) (z := a) (by have := sL l2; rwa [cE, cE] at this) fun q hq => ?_).elim
  have := BO (a := ngP a) (z := ngP m) (c := ngP c) (q := ngP q) l2 (sL l1) (by rw [jf]; exact h0) (wF (h.hm q hq)) (by rw [jf]; exact e1.2.2.2 q hq) (by rw [jf]; exact e2.2.2.2 q hq)
  rw [jf] at this
  rw [mw]; omega
 ·omega
theorem eS.next (h : eS D A B z m) (hn : gY D) (he : Ed A B x y) : ∃ c, Ed A B y c /\ 0 < sdp x y c := by
 rcases he with ha | ha
 ·obtain ⟨r, e⟩ := h.tA
  have hc := h.cA
  rw [e] at hc ha
  rcases oV hc ha with rfl | ⟨c, h1, h2⟩
  ·obtain ⟨c, hc⟩ := sX h.lenB
   rw [h.bB] at hc
   exact ⟨c, .inr hc, h.jz hn (by rw [e]; exact ha) hc⟩
  ·exact ⟨c, .inl (by rw [e]; exact h1), h2⟩
 ·obtain ⟨r, e⟩ := h.tB
  have hc := h.cB
  have ha' := h.adjB ha
  rw [e, List.map_cons] at hc ha'
  rcases oV hc ha' with e2 | ⟨c, h1, h2⟩
  ·have ey : y = m := by rw [← cE y, e2, cE]
   subst ey
   obtain ⟨c, hc⟩ := sX h.lenA
   rw [h.bA] at hc
   exact ⟨c, .inl hc, h.jm hn ha hc⟩
  ·refine ⟨ngP c, .inr ?_, ?_⟩
   ·rw [← List.map_cons, ← e, tf, cE] at h1; exact h1
   ·rw [← jf, cE]; exact h2
theorem eS.prev (h : eS D A B z m) (hn : gY D) (he : Ed A B x y) : ∃ c, Ed A B c x /\ 0 < sdp c x y := by
 rcases he with ha | ha
 ·rcases pB h.cA ha with e2 | ⟨c, h1, h2⟩
  ·rw [h.bA] at e2; subst e2
   obtain ⟨r, e⟩ := h.tB
   have hl := h.lenB
   match B, e, hl with
   | _ :: a :: l, e, _ =>
     cases e
     exact ⟨a, .inr jv, h.jm hn jv ha⟩
  ·exact ⟨c, .inl h1, h2⟩
 ·rcases pB h.cB (h.adjB ha) with e2 | ⟨c, h1, h2⟩
  ·obtain ⟨r, e⟩ := h.tB
   rw [vC (by rw [e]; simp), h.bB] at e2
   have ex : x = z := by rw [← cE x, e2, cE]
   subst ex
   obtain ⟨r, e⟩ := h.tA
   have hl := h.lenA
   match A, e, hl with
   | _ :: a :: l, e, _ =>
     cases e
     exact ⟨a, .inl jv, h.jz hn jv ha⟩
  ·refine ⟨ngP c, .inr ?_, ?_⟩
   ·rw [tf, cE] at h1; exact h1
   ·rw [← jf, cE]; exact h2
theorem eS.flat (h : eS D A B z m) (ha : A.length < 3) (hb : B.length < 3) : A = [z, m] /\ B = [m, z] /\ ∀ q, D q -> sdp m z q = 0 := by
 obtain ⟨r, e⟩ := h.tA
 obtain ⟨s, e'⟩ := h.tB
 have la := h.lenA
 have lb := h.lenB
 have e1 := h.bA
 have e2 := h.bB
 have eA : A = [z, m] := by
  match A, e, la, ha, e1 with
  | [a, b], e, _, _, e1 => cases e; cases e1; rfl
 have eB : B = [m, z] := by
  match B, e', lb, hb, e2 with
  | [a, b], e, _, _, e2 => cases e; cases e2; rfl
 refine ⟨eA, eB, fun q hq => ?_⟩
 have k1 := (h.e1 (x := m) (y := z) (.inl (by rw [eA]; exact jv))).2.2.2 q hq
 have k2 := (h.e1 (x := z) (y := m) (.inr (by rw [eB]; exact jv))).2.2.2 q hq
 rw [mw] at k2
 omega
end
def skp (a b : P2) (x y k : Int) : Int := (b.1 - a.1) * (y - k * a.2) - (b.2 - a.2) * (x - k * a.1)
def InH (D : P2 -> Prop) (x y k : Int) : Prop := ∀ A B C : Int, (∀ q, D q -> 0 <= A * q.1 + B * q.2 + C) -> 0 <= A * x + B * y + C * k
def CvN (D : P2 -> Prop) (mx my r : Int) : Prop := ∃ x y k, 0 < k /\ InH D x y k /\ q2 (k * mx - x) (k * my - y) <= (k * r) * (k * r)
theorem vE {D : P2 -> Prop} {x y k : Int} {a b : P2} (h : InH D x y k) (hs : ∀ q, D q -> 0 <= sdp a b q) : 0 <= skp a b x y k := by
 have := h (-(b.2 - a.2)) (b.1 - a.1) (-(b.1 - a.1) * a.2 + (b.2 - a.2) * a.1) fun q hq => by
  have e : -(b.2 - a.2) * q.1 + (b.1 - a.1) * q.2 + (-(b.1 - a.1) * a.2 + (b.2 - a.2) * a.1) = sdp a b q := by unfold sdp sd; grind
  rw [e]; exact hs q hq
 have e : -(b.2 - a.2) * x + (b.1 - a.1) * y + (-(b.1 - a.1) * a.2 + (b.2 - a.2) * a.1) * k = skp a b x y k := by unfold skp; grind
 rwa [e] at this
def prs : List P2 -> List (P2 × P2)
 | b :: a :: l => (a, b) :: prs (a :: l)
 | _ => []
theorem oE : ∀ {st : List P2} {x y : P2}, (x, y) ∈ prs st ↔ Adj st x y
 | [], x, y => by simp [prs, Adj]
 | [_], x, y => by simp [prs, Adj]
 | b :: a :: l, x, y => by simp only [prs, Adj, List.mem_cons, Prod.mk.injEq, oE (st := a :: l)]
theorem exit {mx my x y k : Int} (hk : 0 < k) : ∀ (es : List (P2 × P2)), (∀ e ∈ es, 0 <= skp e.1 e.2 x y k) ->
 ∃ j l, 0 <= j /\ j <= l /\ 0 < l /\ (∀ e ∈ es, 0 <= (l - j) * skp e.1 e.2 x y k + j * (k * sdp e.1 e.2 (mx, my))) /\ (j = l ∨ ∃ e ∈ es, (l - j) * skp e.1 e.2 x y k + j * (k * sdp e.1 e.2 (mx, my)) = 0)
 | [], _ => ⟨1, 1, by omega, by omega, by omega, (fun e he => by cases he), .inl rfl⟩
 | e :: es, h => by
   obtain ⟨j, l, h1, h2, h3, h4, h5⟩ := exit hk es fun f hf => h f (List.mem_cons_of_mem _ hf)
   have hX := h e (by simp)
   by_cases hy : 0 <= (l - j) * skp e.1 e.2 x y k + j * (k * sdp e.1 e.2 (mx, my))
   ·refine ⟨j, l, h1, h2, h3, fun f hf => ?_, ?_⟩
    ·rcases List.mem_cons.1 hf with rfl | hf
     ·exact hy
     ·exact h4 f hf
    ·rcases h5 with h5 | ⟨f, hf, h6⟩
     ·exact .inl h5
     ·exact .inr ⟨f, List.mem_cons_of_mem _ hf, h6⟩
   ·generalize hM : k * sdp e.1 e.2 (mx, my) = M at hy
    generalize hX' : skp e.1 e.2 x y k = X at hX hy
    have hM0 : M < 0 := by
     apply Classical.byContradiction; intro hn
     have k1 := imn h1 (show 0 <= M by omega)
     have k2 := imn (show 0 <= l - j by omega) hX
     omega
    refine ⟨X, X - M, hX, by omega, by omega, fun f hf => ?_, .inr ⟨e, by simp, ?_⟩⟩
    ·rcases List.mem_cons.1 hf with rfl | hf
     ·rw [hX', hM]
      have e : (X - M - X) * X + X * M = 0 := by grind
      omega
     ·have hf4 := h4 f hf
      have hfX := h f (List.mem_cons_of_mem _ hf)
      generalize k * sdp f.1 f.2 (mx, my) = M' at hf4 ⊢
      generalize skp f.1 f.2 x y k = X2 at hf4 hfX ⊢
      by_cases hM2 : 0 <= M'
      ·have k1 := imn (show 0 <= X - M - X by omega) hfX
       have k2 := imn hX hM2
       omega
      ·refine cK h3 ?_
       rw [Int.mul_zero]
       -- l X <= j (X - M)
       have o : 0 <= j * (X - M) - l * X := by
        have e : j * (X - M) - l * X = -((l - j) * X + j * M) := by grind
        omega
       have k1 := imn o (show 0 <= X2 - M' by omega)
       have k2 := imn (show 0 <= X - M by omega) hf4
       have e : l * ((X - M - X) * X2 + X * M') = (j * (X - M) - l * X) * (X2 - M') + (X - M) * ((l - j) * X2 + j * M') := by grind
       omega
    ·rw [hX', hM]; grind
theorem oz {x : Int} (h : x ≠ 0) : 0 < x * x := by
 have := sq0 x
 by_cases e : x * x = 0
 ·rcases Int.mul_eq_zero.1 e with e | e <;> exact (h e).elim
 ·omega
theorem Hj {a b c d : P2} {mx my r x y k : Int} (hk : 0 < k) (h0 : skp a b x y k = 0) (h1 : 0 <= skp d a x y k) (h2 : 0 < sdp d a b) (h3 : 0 <= skp b c x y k) (h4 : 0 < sdp a b c)
 (hq : q2 (k * mx - x) (k * my - y) <= (k * r) * (k * r)) : Nq a.1 a.2 b.1 b.2 mx my 1 r := by
 unfold sdp sd at h2 h4
 unfold skp at h0 h1 h3
 obtain ⟨a1, a2⟩ := a
 obtain ⟨b1, b2⟩ := b
 obtain ⟨c1, c2⟩ := c
 obtain ⟨d1, d2⟩ := d
 simp only at *
 have hdd : 0 < (b1 - a1) * (b1 - a1) + (b2 - a2) * (b2 - a2) := by
  by_cases e : b1 - a1 = 0
  ·by_cases e' : b2 - a2 = 0
   ·rw [show b1 = a1 by omega, show b2 = a2 by omega] at h2
    have : (a1 - d1) * (a2 - d2) - (a2 - d2) * (a1 - d1) = 0 := by grind
    omega
   ·have := oz e'; have := sq0 (b1 - a1); omega
  ·have := oz e; have := sq0 (b2 - a2); omega
 have ex : ((b1 - a1) * (b1 - a1) + (b2 - a2) * (b2 - a2)) * (x - k * a1) = ((b1 - a1) * (x - k * a1) + (b2 - a2) * (y - k * a2)) * (b1 - a1) - (b2 - a2) * ((b1 - a1) * (y - k * a2) - (b2 - a2) * (x - k * a1)) := by grind
 have ey : ((b1 - a1) * (b1 - a1) + (b2 - a2) * (b2 - a2)) * (y - k * a2) = ((b1 - a1) * (x - k * a1) + (b2 - a2) * (y - k * a2)) * (b2 - a2) + (b1 - a1) * ((b1 - a1) * (y - k * a2) - (b2 - a2) * (x - k * a1)) := by grind
 rw [h0, Int.mul_zero] at ex ey
 have eT : ((b1 - a1) * (b1 - a1) + (b2 - a2) * (b2 - a2)) * ((a1 - d1) * (y - k * d2) - (a2 - d2) * (x - k * d1)) = (a1 - d1) * (((b1 - a1) * (b1 - a1) + (b2 - a2) * (b2 - a2)) * (y - k * a2)) - (a2 - d2) * (((b1 - a1) * (b1 - a1) + (b2 - a2) * (b2 - a2)) * (x - k * a1)) := by grind
 have eU : ((b1 - a1) * (b1 - a1) + (b2 - a2) * (b2 - a2)) * ((c1 - b1) * (y - k * b2) - (c2 - b2) * (x - k * b1)) = (c1 - b1) * (((b1 - a1) * (b1 - a1) + (b2 - a2) * (b2 - a2)) * (y - k * a2) - k * ((b1 - a1) * (b1 - a1) + (b2 - a2) * (b2 - a2)) * (b2 - a2)) - (c2 - b2) * (((b1 - a1) * (b1 - a1) + (b2 - a2) * (b2 - a2)) * (x - k * a1) - k * ((b1 - a1) * (b1 - a1) + (b2 - a2) * (b2 - a2)) * (b1 - a1)) := by grind
 rw [ex, ey] at eT eU
 have k1 := imn (Int.le_of_lt hdd) h1
 have k2 := imn (Int.le_of_lt hdd) h3
 rw [eT] at k1
 rw [eU] at k2
 generalize hT : (b1 - a1) * (x - k * a1) + (b2 - a2) * (y - k * a2) = T at *
 generalize hd : (b1 - a1) * (b1 - a1) + (b2 - a2) * (b2 - a2) = dd at *
 have t1 : 0 <= T := by
  have e : (a1 - d1) * (T * (b2 - a2) + 0) - (a2 - d2) * (T * (b1 - a1) - 0) = ((a1 - d1) * (b2 - d2) - (a2 - d2) * (b1 - d1)) * T := by grind
  rw [e] at k1
  exact cK h2 (by rw [Int.mul_zero]; exact k1)
 have t2 : T <= k * dd := by
  have e : (c1 - b1) * (T * (b2 - a2) + 0 - k * dd * (b2 - a2)) - (c2 - b2) * (T * (b1 - a1) - 0 - k * dd * (b1 - a1)) = ((b1 - a1) * (c2 - a2) - (b2 - a2) * (c1 - a1)) * (k * dd - T) := by grind
  rw [e] at k2
  have := cK h4 (a := 0) (b := k * dd - T) (by rw [Int.mul_zero]; exact k2)
  omega
 refine ⟨T, k * dd, t1, t2, Int.mul_pos hk hdd, ?_⟩
 have f1 : k * dd * mx - 1 * ((k * dd - T) * a1 + T * b1) = dd * (k * mx - x) := by
  have : dd * (k * mx - x) = k * dd * mx - (dd * (x - k * a1) + k * dd * a1) := by grind
  rw [this, ex]; grind
 have f2 : k * dd * my - 1 * ((k * dd - T) * a2 + T * b2) = dd * (k * my - y) := by
  have : dd * (k * my - y) = k * dd * my - (dd * (y - k * a2) + k * dd * a2) := by grind
  rw [this, ey]; grind
 rw [f1, f2, dN]
 have := iml hq (sq0 dd)
 have e : k * dd * 1 * r * (k * dd * 1 * r) = dd * dd * (k * r * (k * r)) := by grind
 omega
theorem eS.near {D : P2 -> Prop} {A B : List P2} {z m : P2} (h : eS D A B z m) (hn : gY D) {mx my r : Int} (hr : 0 <= r) (hc : CvN D mx my r) {e0 : P2 × P2} (h0 : Ed A B e0.1 e0.2) (hs : sdp e0.1 e0.2 (mx, my) <= 0) :
 ∃ a b, Ed A B a b /\ Nq a.1 a.2 b.1 b.2 mx my 1 r := by
 obtain ⟨x, y, k, hk, hI, hq⟩ := hc
 have hes : ∀ e : P2 × P2, e ∈ prs A ++ prs B ↔ Ed A B e.1 e.2 := fun e => by
  rw [List.mem_append, ← oE.symm.trans Iff.rfl]
  unfold Ed
  rw [← oE, ← oE]
 obtain ⟨j, l, h1, h2, h3, h4, h5⟩ := exit (mx := mx) (my := my) hk (prs A ++ prs B) fun e he => vE hI (h.e1 ((hes e).1 he)).2.2.2
 have sk : ∀ a b : P2, (l - j) * skp a b x y k + j * (k * sdp a b (mx, my)) = skp a b ((l - j) * x + j * k * mx) ((l - j) * y + j * k * my) (k * l) := fun a b => by unfold skp sdp sd; grind
 simp only [sk] at h4 h5
 have key : ∃ e : P2 × P2, Ed A B e.1 e.2 /\ skp e.1 e.2 ((l - j) * x + j * k * mx) ((l - j) * y + j * k * my) (k * l) = 0 := by
  rcases h5 with rfl | ⟨e, he, h6⟩
  ·refine ⟨e0, h0, ?_⟩
   have k1 := h4 e0 ((hes e0).2 h0)
   rw [← sk] at k1 ⊢
   have k2 := imn h1 (imn (Int.le_of_lt hk) (show 0 <= -sdp e0.1 e0.2 (mx, my) by omega))
   have e : j * (k * -sdp e0.1 e0.2 (mx, my)) = -(j * (k * sdp e0.1 e0.2 (mx, my))) := by grind
   have e2 : (j - j) * skp e0.1 e0.2 x y k = 0 := by grind
   omega
  ·exact ⟨e, (hes e).1 he, h6⟩
 obtain ⟨⟨a, b⟩, he, hz⟩ := key
 obtain ⟨c, hc1, hc2⟩ := h.next hn he
 obtain ⟨d, hd1, hd2⟩ := h.prev hn he
 refine ⟨a, b, he, Hj (Int.mul_pos hk h3) hz (h4 (d, a) ((hes _).2 hd1)) hd2 (h4 (b, c) ((hes _).2 hc1)) hc2 ?_⟩
 have f1 : k * l * mx - ((l - j) * x + j * k * mx) = (l - j) * (k * mx - x) := by grind
 have f2 : k * l * my - ((l - j) * y + j * k * my) = (l - j) * (k * my - y) := by grind
 rw [f1, f2, dN]
 have k1 := iml hq (sq0 (l - j))
 have k2 : (l - j) * (l - j) <= l * l := Int.mul_le_mul (by omega) (by omega) (by omega) (by omega)
 have k3 := Int.mul_le_mul_of_nonneg_right k2 (sq0 (k * r))
 have e : k * l * r * (k * l * r) = l * l * (k * r * (k * r)) := by grind
 omega
theorem Ai {vx vy dx dy : Int} (hv : Pv vx vy) (hd : Pv dx dy) (h : dx * vy - dy * vx = 0) : 0 <= dx * vx + dy * vy := by
 unfold Pv at *
 rcases hd with hd | ⟨rfl, hd⟩
 ·refine cK hd ?_
  rw [Int.mul_zero]
  have e : dx * (dx * vx + dy * vy) = (dx * dx + dy * dy) * vx + dy * (dx * vy - dy * vx) := by grind
  rw [e, h, Int.mul_zero, Int.add_zero]
  exact imn (by have := sq0 dx; have := sq0 dy; omega) (by omega)
 ·have : vx = 0 := by
   rcases Int.mul_eq_zero.1 (show dy * vx = 0 by omega) with e | e <;> omega
  subst this
  have := imn (Int.le_of_lt hd) (show 0 <= vy by omega)
  omega
theorem zF {D : P2 -> Prop} {z m : P2} (zm : ltP m z) (hz : ∀ q, D q -> leP q z) (hm : ∀ q, D q -> leP m q) (hf : ∀ q, D q -> sdp m z q = 0) {mx my r : Int} (hr : 0 <= r) (hc : CvN D mx my r) : Nq m.1 m.2 z.1 z.2 mx my 1 r := by
 obtain ⟨x, y, k, hk, hI, hq⟩ := hc
 have s1 := vE (a := m) (b := z) hI fun q hq => by rw [hf q hq]; omega
 have s2 := vE (a := z) (b := m) hI fun q hq => by rw [mw, hf q hq]; omega
 have hd := gg zm
 -- from m on
 have d1 := hI (z.1 - m.1) (z.2 - m.2) (-((z.1 - m.1) * m.1 + (z.2 - m.2) * m.2)) fun q hq => by
  have e : (z.1 - m.1) * q.1 + (z.2 - m.2) * q.2 + -((z.1 - m.1) * m.1 + (z.2 - m.2) * m.2) = (z.1 - m.1) * (q.1 - m.1) + (z.2 - m.2) * (q.2 - m.2) := by grind
  rw [e]
  rcases kG m q with h | rfl | h
  ·exact Ai (gg h) hd (by have := hf q hq; unfold sdp sd at this; exact this)
  ·simp
  ·exact (eX _ (lH (hm q hq) h)).elim
 have d2 := hI (-(z.1 - m.1)) (-(z.2 - m.2)) ((z.1 - m.1) * z.1 + (z.2 - m.2) * z.2) fun q hq => by
  have e : -(z.1 - m.1) * q.1 + -(z.2 - m.2) * q.2 + ((z.1 - m.1) * z.1 + (z.2 - m.2) * z.2) = (z.1 - m.1) * (z.1 - q.1) + (z.2 - m.2) * (z.2 - q.2) := by grind
  rw [e]
  rcases kG q z with h | rfl | h
  ·refine Ai (gg h) hd ?_
   have := hf q hq
   unfold sdp sd at this
   have e : (z.1 - m.1) * (z.2 - q.2) - (z.2 - m.2) * (z.1 - q.1) = -((z.1 - m.1) * (q.2 - m.2) - (z.2 - m.2) * (q.1 - m.1)) := by grind
   omega
  ·simp
  ·exact (eX _ (lH (hz q hq) h)).elim
 unfold skp at s1 s2
 unfold ltP at zm
 obtain ⟨a1, a2⟩ := m
 obtain ⟨b1, b2⟩ := z
 simp only at *
 have h0 : (b1 - a1) * (y - k * a2) - (b2 - a2) * (x - k * a1) = 0 := by
  have e : (a1 - b1) * (y - k * b2) - (a2 - b2) * (x - k * b1) = -((b1 - a1) * (y - k * a2) - (b2 - a2) * (x - k * a1)) := by grind
  omega
 have hdd : 0 < (b1 - a1) * (b1 - a1) + (b2 - a2) * (b2 - a2) := by
  by_cases e : b1 - a1 = 0
  ·have := oz (x := b2 - a2) (by omega); have := sq0 (b1 - a1); omega
  ·have := oz e; have := sq0 (b2 - a2); omega
 have ex : ((b1 - a1) * (b1 - a1) + (b2 - a2) * (b2 - a2)) * (x - k * a1) = ((b1 - a1) * (x - k * a1) + (b2 - a2) * (y - k * a2)) * (b1 - a1) - (b2 - a2) * ((b1 - a1) * (y - k * a2) - (b2 - a2) * (x - k * a1)) := by grind
 have ey : ((b1 - a1) * (b1 - a1) + (b2 - a2) * (b2 - a2)) * (y - k * a2) = ((b1 - a1) * (x - k * a1) + (b2 - a2) * (y - k * a2)) * (b2 - a2) + (b1 - a1) * ((b1 - a1) * (y - k * a2) - (b2 - a2) * (x - k * a1)) := by grind
 rw [h0, Int.mul_zero] at ex ey
 have t1 : 0 <= (b1 - a1) * (x - k * a1) + (b2 - a2) * (y - k * a2) := by
  have e : (b1 - a1) * x + (b2 - a2) * y + -((b1 - a1) * a1 + (b2 - a2) * a2) * k = (b1 - a1) * (x - k * a1) + (b2 - a2) * (y - k * a2) := by grind
  omega
 have t2 : (b1 - a1) * (x - k * a1) + (b2 - a2) * (y - k * a2) <= k * ((b1 - a1) * (b1 - a1) + (b2 - a2) * (b2 - a2)) := by
  have e : -(b1 - a1) * x + -(b2 - a2) * y + ((b1 - a1) * b1 + (b2 - a2) * b2) * k = k * ((b1 - a1) * (b1 - a1) + (b2 - a2) * (b2 - a2)) - ((b1 - a1) * (x - k * a1) + (b2 - a2) * (y - k * a2)) := by grind
  omega
 generalize hT : (b1 - a1) * (x - k * a1) + (b2 - a2) * (y - k * a2) = T at *
 generalize hd' : (b1 - a1) * (b1 - a1) + (b2 - a2) * (b2 - a2) = dd at *
 refine ⟨T, k * dd, t1, t2, Int.mul_pos hk hdd, ?_⟩
 have f1 : k * dd * mx - 1 * ((k * dd - T) * a1 + T * b1) = dd * (k * mx - x) := by
  have : dd * (k * mx - x) = k * dd * mx - (dd * (x - k * a1) + k * dd * a1) := by grind
  rw [this, ex]; grind
 have f2 : k * dd * my - 1 * ((k * dd - T) * a2 + T * b2) = dd * (k * my - y) := by
  have : dd * (k * my - y) = k * dd * my - (dd * (y - k * a2) + k * dd * a2) := by grind
  rw [this, ey]; grind
 rw [f1, f2, dN]
 have := iml hq (sq0 dd)
 have e : k * dd * 1 * r * (k * dd * 1 * r) = dd * dd * (k * r * (k * r)) := by grind
 omega
def cV : List P2 -> List P2
 | [] => []
 | [a] => [a]
 | a :: b :: l => (aE [] (a :: b :: l)).tail.reverse ++ (aE [] (a :: b :: l).reverse).tail.reverse
def pAt (l : List P2) (i : Nat) : P2 := l.getD i (0, 0)
def nrp (a b m : P2) (r : Int) : Bool := nr a.1 a.2 b.1 b.2 m.1 m.2 r
def TP (H : List P2) (m : P2) (r : Int) : Prop := (∃ i, i < H.length /\ nrp (pAt H i) (pAt H ((i + 1) % H.length)) m r = true) ∨ (2 < H.length /\ ∀ i, i < H.length -> 0 < sdp (pAt H i) (pAt H ((i + 1) % H.length)) m)
def Wn (m a b c : P2) : Prop := sdp a b c ≠ 0 /\ ((0 <= sdp a b m /\ 0 <= sdp b c m /\ 0 <= sdp c a m) ∨ (sdp a b m <= 0 /\ sdp b c m <= 0 /\ sdp c a m <= 0))
def sK (D : P2 -> Prop) (m : P2) (r : Int) : Prop := (∃ a b, D a /\ D b /\ nrp a b m r = true) ∨ ∃ a b c, D a /\ D b /\ D c /\ Wn m a b c
theorem wi : ∀ {st : List P2} {x y : P2}, Adj st x y ↔ ∃ i, st.reverse[i]? = some x /\ st.reverse[i + 1]? = some y
 | [], x, y => by simp [Adj]
 | [s], x, y => by
   simp only [Adj, false_iff]
   rintro ⟨i, h1, h2⟩
   simp at h2
 | b :: a :: l, x, y => by
   have ih := wi (st := a :: l) (x := x) (y := y)
   have hl : (a :: l).reverse.length = l.length + 1 := by simp
   have ha : (a :: l).reverse[l.length]? = some a := by
    rw [List.reverse_cons, List.getElem?_append_right (by simp)]; simp
   simp only [Adj, ih]
   rw [List.reverse_cons (a := b)]
   constructor
   ·rintro (⟨rfl, rfl⟩ | ⟨i, h1, h2⟩)
    ·refine ⟨l.length, ?_, ?_⟩
     ·rw [List.getElem?_append_left (by omega)]; exact ha
     ·rw [List.getElem?_append_right (by omega), hl]; simp
    ·have k : i + 1 < (a :: l).reverse.length := by
      apply Classical.byContradiction; intro hn
      rw [List.getElem?_eq_none (by omega)] at h2; cases h2
     exact ⟨i, by rw [List.getElem?_append_left (by omega)]; exact h1, by rw [List.getElem?_append_left k]; exact h2⟩
   ·rintro ⟨i, h1, h2⟩
    by_cases k : i + 1 < (a :: l).reverse.length
    ·rw [List.getElem?_append_left k] at h2
     rw [List.getElem?_append_left (by omega)] at h1
     exact .inr ⟨i, h1, h2⟩
    ·rw [List.getElem?_append_right (by omega), hl] at h2
     have e : i = l.length := by
      apply Classical.byContradiction; intro hn
      rw [List.getElem?_eq_none (by simp; omega)] at h2; cases h2
     subst e
     rw [List.getElem?_append_left (by omega), ha] at h1
     rw [Nat.sub_self] at h2
     simp only [List.getElem?_cons_zero, Option.some.injEq] at h1 h2
     exact .inl ⟨h1.symm, h2.symm⟩
theorem vD : ∀ {st : List P2}, st ≠ [] -> st.reverse[0]? = some (ml st)
 | [s], _ => rfl
 | b :: a :: l, _ => by
   rw [List.reverse_cons (a := b), List.getElem?_append_left (by simp)]
   exact vD (st := a :: l) (by simp)
section
variable {D : P2 -> Prop} {A B : List P2} {z m : P2}
theorem Fy {rA rB : List P2} {z m : P2} (bA : rA.reverse[0]? = some m) (bB : rB.reverse[0]? = some z) (i : Nat) (hi : i < rA.length + rB.length) :
 (rA.reverse ++ rB.reverse)[i]? = (if i < rA.length then (rA.reverse ++ [z])[i]? else (rB.reverse ++ [m])[i - rA.length]?) /\ (rA.reverse ++ rB.reverse)[(i + 1) % (rA.length + rB.length)]? = (if i < rA.length then (rA.reverse ++ [z])[i + 1]? else (rB.reverse ++ [m])[i - rA.length + 1]?) := by
 have nA : rA.reverse.length = rA.length := List.length_reverse
 have nB : rB.reverse.length = rB.length := List.length_reverse
 by_cases h1 : i < rA.length
 ·rw [if_pos h1, if_pos h1, Nat.mod_eq_of_lt (by
   have : 0 < rB.reverse.length := by
    apply Classical.byContradiction; intro hn
    rw [List.getElem?_eq_none (by omega)] at bB; cases bB
   omega)]
  refine ⟨by rw [List.getElem?_append_left (by omega), List.getElem?_append_left (by omega)], ?_⟩
  by_cases h2 : i + 1 < rA.length
  ·rw [List.getElem?_append_left (by omega), List.getElem?_append_left (by omega)]
  ·have e : i + 1 = rA.length := by omega
   rw [e, List.getElem?_append_right (by omega), List.getElem?_append_right (by omega), nA, Nat.sub_self, bB]; rfl
 ·rw [if_neg h1, if_neg h1]
  refine ⟨by rw [List.getElem?_append_right (by omega), List.getElem?_append_left (l₁ := rB.reverse) (by omega), nA], ?_⟩
  by_cases h2 : i - rA.length + 1 < rB.length
  ·rw [Nat.mod_eq_of_lt (by omega), List.getElem?_append_right (by omega), List.getElem?_append_left (l₁ := rB.reverse) (by omega), nA]
   congr 1; omega
  ·have e : i + 1 = rA.length + rB.length := by omega
   have e2 : i - rA.length + 1 = rB.length := by omega
   rw [e, Nat.mod_self, e2, List.getElem?_append_left (by
    apply Classical.byContradiction; intro hn
    rw [List.getElem?_eq_none (by omega)] at bA; cases bA), List.getElem?_append_right (by omega), nB, Nat.sub_self, bA]; rfl
theorem eS.ix (h : eS D A B z m) (i : Nat) (hi : i < (A.tail.reverse ++ B.tail.reverse).length) :
 (A.tail.reverse ++ B.tail.reverse)[i]? = (if i < A.tail.length then A.reverse[i]? else B.reverse[i - A.tail.length]?) /\ (A.tail.reverse ++ B.tail.reverse)[(i + 1) % (A.tail.reverse ++ B.tail.reverse).length]? = (if i < A.tail.length then A.reverse[i + 1]? else B.reverse[i - A.tail.length + 1]?) := by
 obtain ⟨rA, eA⟩ := h.tA
 obtain ⟨rB, eB⟩ := h.tB
 have la := h.lenA
 have lb := h.lenB
 have bA := vD (st := A) (by rw [eA]; simp)
 have bB := vD (st := B) (by rw [eB]; simp)
 rw [h.bA] at bA
 rw [h.bB] at bB
 rw [eA] at la bA hi ⊢
 rw [eB] at lb bB hi ⊢
 simp only [List.length_cons] at la lb
 rw [List.reverse_cons, List.getElem?_append_left (by simp; omega)] at bA bB
 have hi' : i < rA.length + rB.length := by
  have : (rA.reverse ++ rB.reverse).length = rA.length + rB.length := by simp
  have h2 : i < (rA.reverse ++ rB.reverse).length := hi
  omega
 have k := Fy bA bB i hi'
 have eL : (rA.reverse ++ rB.reverse).length = rA.length + rB.length := by simp
 rw [← eL] at k
 rw [← List.reverse_cons, ← List.reverse_cons] at k
 exact k
theorem eC {l : List P2} {i : Nat} (h : i < l.length) : l[i]? = some (pAt l i) := by
 unfold pAt; rw [List.getElem?_eq_getElem h]; simp [List.getD, List.getElem?_eq_getElem h]
theorem eS.cyc (h : eS D A B z m) {x y : P2} : (∃ i, i < (A.tail.reverse ++ B.tail.reverse).length /\ pAt (A.tail.reverse ++ B.tail.reverse) i = x /\ pAt (A.tail.reverse ++ B.tail.reverse) ((i + 1) % (A.tail.reverse ++ B.tail.reverse).length) = y) ↔ Ed A B x y := by
 unfold Ed
 rw [wi, wi]
 have nA : A.reverse.length = A.tail.length + 1 := by have := h.lenA; simp; omega
 have nB : B.reverse.length = B.tail.length + 1 := by have := h.lenB; simp; omega
 have nH : (A.tail.reverse ++ B.tail.reverse).length = A.tail.length + B.tail.length := by simp
 have gt : ∀ {l : List P2} {i : Nat} {x : P2}, l[i]? = some x -> i < l.length := fun {l i x} hx => by
  apply Classical.byContradiction; intro hn
  rw [List.getElem?_eq_none (by omega)] at hx; cases hx
 constructor
 ·rintro ⟨i, hi, rfl, rfl⟩
  have k := h.ix i hi
  rw [eC hi, eC (Nat.mod_lt _ (by omega))] at k
  by_cases hl : i < A.tail.length
  ·rw [if_pos hl, if_pos hl] at k
   exact .inl ⟨i, k.1.symm, k.2.symm⟩
  ·rw [if_neg hl, if_neg hl] at k
   exact .inr ⟨_, k.1.symm, k.2.symm⟩
 ·rintro (⟨i, h1, h2⟩ | ⟨i, h1, h2⟩)
  ·have g := gt h2
   have hi : i < (A.tail.reverse ++ B.tail.reverse).length := by omega
   have k := h.ix i hi
   rw [if_pos (by omega), if_pos (by omega), h1, h2, eC hi, eC (Nat.mod_lt _ (by omega))] at k
   simp only [Option.some.injEq] at k
   exact ⟨i, hi, k.1, k.2⟩
  ·have g := gt h2
   have hi : i + A.tail.length < (A.tail.reverse ++ B.tail.reverse).length := by omega
   have k := h.ix (i + A.tail.length) hi
   rw [if_neg (by omega), if_neg (by omega), Nat.add_sub_cancel, h1, h2, eC hi, eC (Nat.mod_lt _ (by omega))] at k
   simp only [Option.some.injEq] at k
   exact ⟨_, hi, k.1, k.2⟩
end
theorem fan {v : Nat -> P2} {n : Nat} {m : P2} (h3 : 2 < n) (h : ∀ i, i < n -> 0 < sdp (v i) (v ((i + 1) % n)) m) : ∃ k, k + 1 < n /\ Wn m (v 0) (v k) (v (k + 1)) := by
 have key : ∀ k, 1 <= k -> k < n -> (∃ k, k + 1 < n /\ 0 < sdp (v 0) (v k) m /\ sdp (v 0) (v (k + 1)) m <= 0) ∨ 0 < sdp (v 0) (v k) m := by
  intro k
  induction k with
  | zero => intro h; omega
  | succ k ih =>
    intro _ hk
    by_cases e : k = 0
    ·subst e
     have := h 0 (by omega)
     rw [Nat.mod_eq_of_lt (by omega)] at this
     exact .inr this
    ·rcases ih (by omega) (by omega) with k1 | k1
     ·exact .inl k1
     ·by_cases h0 : sdp (v 0) (v (k + 1)) m <= 0
      ·exact .inl ⟨k, hk, k1, h0⟩
      ·exact .inr (by omega)
 have last := h (n - 1) (by omega)
 rw [Nat.sub_add_cancel (by omega), Nat.mod_self, mw] at last
 rcases key (n - 1) (by omega) (by omega) with ⟨k, hk, k1, k2⟩ | k1
 ·refine ⟨k, hk, ?_⟩
  have k3 := h k (by omega)
  rw [Nat.mod_eq_of_lt hk] at k3
  have e : sdp (v 0) (v k) (v (k + 1)) = sdp (v 0) (v k) m + sdp (v k) (v (k + 1)) m - sdp (v 0) (v (k + 1)) m := by unfold sdp sd; grind
  refine ⟨by omega, .inl ⟨by omega, by omega, ?_⟩⟩
  rw [mw]; omega
 ·omega
theorem ma {a b m : P2} {r : Int} (hr : 0 <= r) : nrp a b m r = true ↔ Nq a.1 a.2 b.1 b.2 m.1 m.2 1 r := gI hr
section
variable {D : P2 -> Prop} {m : P2} {r : Int}
theorem G4 (hr : 0 <= r) (h : sK D m r) : CvN D m.1 m.2 r := by
 rcases h with ⟨a, b, ha, hb, h⟩ | ⟨a, b, c, ha, hb, hc, h1, h2⟩
 ·obtain ⟨n, k, h1, h2, h3, h4⟩ := (ma hr).1 h
  rw [Int.mul_one] at h4
  refine ⟨(k - n) * a.1 + n * b.1, (k - n) * a.2 + n * b.2, k, h3, fun A B C hq => ?_, ?_⟩
  ·have k1 := imn (show 0 <= k - n by omega) (hq a ha)
   have k2 := imn h1 (hq b hb)
   have e : A * ((k - n) * a.1 + n * b.1) + B * ((k - n) * a.2 + n * b.2) + C * k = (k - n) * (A * a.1 + B * a.2 + C) + n * (A * b.1 + B * b.2 + C) := by grind
   omega
  ·rw [Int.one_mul, Int.one_mul] at h4
   exact h4
 ·refine ⟨m.1, m.2, 1, by omega, fun A B C hq => ?_, ?_⟩
  ·have fa := hq a ha
   have fb := hq b hb
   have fc := hq c hc
   have e : sdp a b c * (A * m.1 + B * m.2 + C * 1) = sdp b c m * (A * a.1 + B * a.2 + C) + sdp c a m * (A * b.1 + B * b.2 + C) + sdp a b m * (A * c.1 + B * c.2 + C) := by unfold sdp sd; grind
   have es : sdp a b c = sdp b c m + sdp c a m + sdp a b m := by unfold sdp sd; grind
   rcases h2 with ⟨g1, g2, g3⟩ | ⟨g1, g2, g3⟩
   ·have k1 := imn g2 fa
    have k2 := imn g3 fb
    have k3 := imn g1 fc
    exact cK (k := sdp a b c) (by omega) (by rw [Int.mul_zero]; omega)
   ·have k1 := imn (show 0 <= -sdp b c m by omega) fa
    have k2 := imn (show 0 <= -sdp c a m by omega) fb
    have k3 := imn (show 0 <= -sdp a b m by omega) fc
    rw [Int.neg_mul] at k1 k2 k3
    exact cK (k := -sdp a b c) (by omega) (by rw [Int.mul_zero, Int.neg_mul]; omega)
  ·rw [Int.one_mul, Int.one_mul, Int.sub_self, Int.sub_self, Int.one_mul]
   have := sq0 r
   unfold q2; omega
theorem Jb {a : P2} (h : q2 (m.1 - a.1) (m.2 - a.2) <= r * r) (b : P2) : Nq a.1 a.2 b.1 b.2 m.1 m.2 1 r := by
 refine ⟨0, 1, by omega, by omega, by omega, ?_⟩
 rw [show 1 * m.1 - 1 * ((1 - 0) * a.1 + 0 * b.1) = m.1 - a.1 by omega, show 1 * m.2 - 1 * ((1 - 0) * a.2 + 0 * b.2) = m.2 - a.2 by omega, show 1 * 1 * r = r by omega]
 exact h
end
theorem Gc {c : List P2} (hs : c.Pairwise ltP) {m : P2} {r : Int} (h : TP (cV c) m r) : sK (fun q => q ∈ c) m r := by
 match c, hs with
 | [], _ =>
   rcases h with ⟨i, hi, _⟩ | ⟨h, _⟩
   ·exact absurd hi (by simp [cV])
   ·exact absurd h (by simp [cV])
 | [a], _ =>
   rcases h with ⟨i, hi, h⟩ | ⟨h, _⟩
   ·simp only [cV, List.length_singleton] at hi h
    have e : i = 0 := by omega
    subst e
    exact .inl ⟨a, a, by simp, by simp, h⟩
   ·exact absurd h (by simp [cV])
 | a :: b :: l, hs =>
   obtain ⟨z, H⟩ := sA hs (by simp)
   unfold cV at h
   rcases h with ⟨i, hi, h⟩ | ⟨h3, h⟩
   ·have k := H.e1 (H.cyc.1 ⟨i, hi, rfl, rfl⟩)
    exact .inl ⟨_, _, k.2.1, k.2.2.1, h⟩
   ·have h3' : 2 < ((aE [] (a :: b :: l)).tail.reverse ++ (aE [] (a :: b :: l).reverse).tail.reverse).length := h3
    obtain ⟨k, hk, hw⟩ := fan (n := ((aE [] (a :: b :: l)).tail.reverse ++ (aE [] (a :: b :: l).reverse).tail.reverse).length) h3' h
    have mem : ∀ i, i < ((aE [] (a :: b :: l)).tail.reverse ++ (aE [] (a :: b :: l).reverse).tail.reverse).length -> pAt ((aE [] (a :: b :: l)).tail.reverse ++ (aE [] (a :: b :: l).reverse).tail.reverse) i ∈ a :: b :: l := fun i hi => (H.e1 (H.cyc.1 ⟨i, hi, rfl, rfl⟩)).2.1
    exact .inr ⟨_, _, _, mem 0 (by omega), mem k (by omega), mem (k + 1) hk, hw⟩
theorem Ep {c : List P2} (hs : c.Pairwise ltP) (h0 : c ≠ []) {m : P2} {r : Int} (hr : 0 <= r) (h : CvN (fun q => q ∈ c) m.1 m.2 r) : TP (cV c) m r := by
 match c, hs, h0 with
 | [a], _, _ =>
   obtain ⟨x, y, k, hk, hI, hq⟩ := h
   have i1 := hI 1 0 (-a.1) fun q hq => by simp only [List.mem_singleton] at hq; subst hq; omega
   have i2 := hI (-1) 0 a.1 fun q hq => by simp only [List.mem_singleton] at hq; subst hq; omega
   have i3 := hI 0 1 (-a.2) fun q hq => by simp only [List.mem_singleton] at hq; subst hq; omega
   have i4 := hI 0 (-1) a.2 fun q hq => by simp only [List.mem_singleton] at hq; subst hq; omega
   rw [Int.neg_mul] at i1 i3
   have ex : x = k * a.1 := by rw [Int.mul_comm]; omega
   have ey : y = k * a.2 := by rw [Int.mul_comm]; omega
   refine .inl ⟨0, by simp [cV], (ma hr).2 (Jb ?_ _)⟩
   show q2 (m.1 - a.1) (m.2 - a.2) <= r * r
   rw [ex, ey, ← Int.mul_sub, ← Int.mul_sub, dN] at hq
   refine g8 hk ?_
   have e : k * r * (k * r) = k * k * (r * r) := by grind
   omega
 | a :: b :: l, hs, _ =>
   obtain ⟨z, H⟩ := sA hs (by simp)
   unfold cV
   have la := H.lenA
   have lb := H.lenB
   by_cases hf : (aE [] (a :: b :: l)).length < 3 /\ (aE [] (a :: b :: l).reverse).length < 3
   ·obtain ⟨eA, eB, hflat⟩ := H.flat hf.1 hf.2
    have k := zF H.zm H.hz H.hm hflat hr h
    have e : Ed (aE [] (a :: b :: l)) (aE [] (a :: b :: l).reverse) a z := .inl (by rw [eA]; exact jv)
    obtain ⟨i, hi, h1, h2⟩ := H.cyc.2 e
    exact .inl ⟨i, hi, by rw [h1, h2]; exact (ma hr).2 k⟩
   ·have hn : gY (fun q => q ∈ a :: b :: l) := H.bend (by omega)
    by_cases hx : ∃ i, i < ((aE [] (a :: b :: l)).tail.reverse ++ (aE [] (a :: b :: l).reverse).tail.reverse).length /\ sdp (pAt ((aE [] (a :: b :: l)).tail.reverse ++ (aE [] (a :: b :: l).reverse).tail.reverse) i) (pAt ((aE [] (a :: b :: l)).tail.reverse ++ (aE [] (a :: b :: l).reverse).tail.reverse) ((i + 1) % ((aE [] (a :: b :: l)).tail.reverse ++ (aE [] (a :: b :: l).reverse).tail.reverse).length)) m <= 0
    ·obtain ⟨i, hi, hx⟩ := hx
     obtain ⟨p, q, he, hk⟩ := H.near hn hr h (e0 := (_, _)) (H.cyc.1 ⟨i, hi, rfl, rfl⟩) hx
     obtain ⟨j, hj, h1, h2⟩ := H.cyc.2 he
     exact .inl ⟨j, hj, by rw [h1, h2]; exact (ma hr).2 hk⟩
    ·refine .inr ⟨by simp only [List.length_append, List.length_reverse, List.length_tail]; omega, fun i hi => ?_⟩
     apply Classical.byContradiction; intro hn
     exact hx ⟨i, hi, Int.not_lt.1 hn⟩
theorem BK {c : List P2} (hs : c.Pairwise ltP) (h0 : c ≠ []) {m : P2} {r : Int} (hr : 0 <= r) : TP (cV c) m r ↔ sK (fun q => q ∈ c) m r := ⟨Gc hs, fun h => Ep hs h0 hr (G4 hr h)⟩
end Go.Dx
namespace Go.Dx
open Go.IntKind (i64 u64 u8)
open Go.Sx
abbrev ty4 : List Ty := tp4
def v4 (a b c d : Int) : List V := [V.int .i64 a, V.int .i64 b, V.int .i64 c, V.int .i64 d]
def LR (g : Int -> Int -> List V) (n : Nat) (f : Nat -> List V) (acc : List (Int × Int)) : Prop := n = acc.length /\ ∀ k p, acc[k]? = some p -> ap ty4 (f k) = g p.1 p.2
theorem LR.nil (g : Int -> Int -> List V) (f : Nat -> List V) : LR g 0 f [] := ⟨rfl, fun k p h => by simp at h⟩
theorem LR.view {g : Int -> Int -> List V} {n : Nat} {f : Nat -> List V} {acc : List (Int × Int)} (h : LR g n f acc) : LR g n (elV ty4 f) acc := ⟨h.1, fun k p hk => by show ap ty4 (ap ty4 (f k)) = _; rw [bn]; exact h.2 k p hk⟩
end Go.Dx
namespace Go.Dx
open Go.Sx
abbrev ty2 : List Ty := [Ty.int IntKind.i64, Ty.int IntKind.i64]
def pq (f : Nat -> List V) (i : Nat) : P2 := (jv0 (f i), jv1 (f i))
def pv2 (p : P2) : List V := [V.int .i64 p.1, V.int .i64 p.2]
theorem ms (f : Nat -> List V) (i : Nat) : pq (elV ty2 f) i = pq f i := rfl
def ptL (n : Nat) (f : Nat -> List V) : List P2 := (List.range n).map (pq f)
theorem bK (n : Nat) (f : Nat -> List V) : (ptL n f).length = n := by simp [ptL]
theorem pG {n : Nat} {f : Nat -> List V} {k : Nat} (h : k < n) : (ptL n f)[k]? = some (pq f k) := by simp [ptL, h]
theorem EY (n : Nat) (f : Nat -> List V) : ptL n (elV ty2 f) = ptL n f := rfl
theorem lV {n : Nat} {f : Nat -> List V} {q : P2} : q ∈ ptL n f ↔ ∃ k, k < n /\ pq f k = q := by simp [ptL]
theorem pO (n : Nat) (f : Nat -> List V) (p : P2) : ptL (n + 1) (av n (elV ty2 f) fun _ => pv2 p) = ptL n f ++ [p] := by
 unfold ptL
 rw [List.range_succ, List.map_append]
 congr 1
 ·refine List.map_congr_left fun k hk => ?_
  have hk := List.mem_range.1 hk
  unfold pq av
  rw [show Nat.blt k n = true from Nat.ble_eq_true_of_le hk]; rfl
 ·simp only [List.map_cons, List.map_nil, List.cons.injEq, and_true]
  unfold pq av
  have : Nat.blt n n = false := by
   cases hb : Nat.blt n n with
   | false => rfl
   | true => have := Nat.le_of_ble_eq_true hb; omega
  rw [this]; rfl
theorem uM {n m : Nat} {f : Nat -> List V} (h : m <= n) : ptL m f = (ptL n f).take m := by
 unfold ptL
 rw [← List.map_take, List.take_range, Nat.min_eq_left h]
theorem wq {f : Nat -> List V} {j k : Nat} {l : List V} : pq (fun i => bif Nat.beq i j then l else f i) k = if k = j then (jv0 l, jv1 l) else pq f k := by
 unfold pq
 dsimp only
 by_cases h : k = j
 ·subst h; rw [if_pos rfl, Nat.beq_refl]; rfl
 ·rw [if_neg h]
  have : Nat.beq k j = false := by
   cases hb : Nat.beq k j with
   | false => rfl
   | true => exact (h (Nat.eq_of_beq_eq_true hb)).elim
  rw [this]; rfl
theorem zO {a b c : P2} (h1 : leP a b) (h2 : leP b c) : leP a c := by unfold leP at *; omega
theorem y6 {a b : P2} (h : ¬ ltP a b) : leP b a := by unfold ltP leP at *; omega
theorem uq {a b : P2} (h : leP a b) (hn : ¬ (b.1 = a.1 /\ b.2 = a.2)) : ltP a b := by unfold ltP leP at *; omega
def swF (f : Nat -> List V) (i j : Nat) : Nat -> List V := fun i' => bif Nat.beq i' j then pv2 (pq f i) else bif Nat.beq i' i then pv2 (pq f j) else elV ty2 f i'
theorem qr (f : Nat -> List V) (i j k : Nat) : pq (swF f i j) k = if k = j then pq f i else if k = i then pq f j else pq f k := by
 unfold swF
 rw [wq]
 by_cases h : k = j
 ·rw [if_pos h, if_pos h]; rfl
 ·rw [if_neg h, if_neg h]
  have := wq (f := elV ty2 f) (j := i) (k := k) (l := pv2 (pq f j))
  rw [this]; rfl
section
variable {N : Nat} {D : P2 -> Prop}
def iA (N : Nat) (D : P2 -> Prop) (f : Nat -> List V) : Prop := ∀ q, D q ↔ ∃ k, k < N /\ pq f k = q
def Srt (i : Nat) (f : Nat -> List V) : Prop := ∀ a b, a < b -> b < i -> leP (pq f a) (pq f b)
def SSr (i : Nat) (f : Nat -> List V) : Prop := ∀ a b, a < b -> b < i -> ltP (pq f a) (pq f b)
theorem Fh {f : Nat -> List V} {i j : Nat} (hi : i < N) (hj : j < N) (h : iA N D f) : iA N D (swF f i j) := fun q => by
 rw [h q]
 constructor
 ·rintro ⟨k, hk, e⟩
  by_cases h1 : k = i
  ·exact ⟨j, hj, by rw [qr, if_pos rfl, ← h1]; exact e⟩
  ·by_cases h2 : k = j
   ·refine ⟨i, hi, ?_⟩
    rw [qr]
    by_cases h3 : i = j
    ·rw [if_pos h3]; rw [h3, ← h2]; exact e
    ·rw [if_neg h3, if_pos rfl, ← h2]; exact e
   ·exact ⟨k, hk, by rw [qr, if_neg h2, if_neg h1]; exact e⟩
 ·rintro ⟨k, hk, e⟩
  rw [qr] at e
  by_cases h2 : k = j
  ·rw [if_pos h2] at e; exact ⟨i, hi, e⟩
  ·rw [if_neg h2] at e
   by_cases h1 : k = i
   ·rw [if_pos h1] at e; exact ⟨j, hj, e⟩
   ·rw [if_neg h1] at e; exact ⟨k, hk, e⟩
theorem pf {P0 : Nat -> (Nat -> List V) -> Prop} {P1 : Nat -> Nat -> (Nat -> List V) -> Prop}
 (s0 : ∀ i f, 1 <= i -> i < N -> P1 i i (elV ty2 f) -> P0 i f)
 (s0e : ∀ f, Srt N f -> iA N D f -> P0 N f)
 (s1a : ∀ j i f, 0 < j -> j <= i -> i < N -> iA N D f -> ltP (pq f j) (pq f (j - 1)) -> P1 (j - 1) i (swF f j (j - 1)) -> P1 j i f)
 (s1b : ∀ j i f, j <= i -> i < N -> iA N D f -> (0 < j -> ¬ ltP (pq f j) (pq f (j - 1))) -> P0 (i + 1) (elV ty2 f) -> P1 j i f) :
 ∀ m i f, i + m = N -> 1 <= i -> Srt i f -> iA N D f -> P0 i f
 | 0, i, f, h1, _, h2, h3 => by
   rw [show i = N by omega] at h2 ⊢; exact s0e f h2 h3
 | m + 1, i, f, h1, hi, h2, h3 => by
   refine s0 i f hi (by omega) ?_
   have key : ∀ j f, j <= i -> (∀ a b, a < b -> b <= i -> b ≠ j -> leP (pq f a) (pq f b)) -> iA N D f -> P1 j i f := by
    intro j
    induction j with
    | zero =>
      intro f hj hins hm
      refine s1b 0 i f hj (by omega) hm (fun h => by omega) (pf s0 s0e s1a s1b m (i + 1) _ (by omega) (by omega) (fun a b hab hb => ?_) hm)
      exact hins a b hab (by omega) (by omega)
    | succ j ih =>
      intro f hj hins hm
      by_cases hlt : ltP (pq f (j + 1)) (pq f j)
      ·refine s1a (j + 1) i f (by omega) hj (by omega) hm hlt (ih _ (by omega) (fun a b hab hb hbj => ?_) (Fh (by omega) (by omega) hm))
       simp only [Nat.add_sub_cancel] at *
       rw [qr, qr]
       by_cases b1 : b = j + 1
       ·subst b1
        rw [if_neg (by omega : ¬ j + 1 = j), if_pos rfl]
        by_cases a1 : a = j
        ·rw [if_pos a1]; exact ny hlt
        ·rw [if_neg a1, if_neg (by omega)]
         exact hins a j (by omega) (by omega) (by omega)
       ·rw [if_neg hbj, if_neg b1]
        by_cases a1 : a = j
        ·rw [if_pos a1]; exact hins (j + 1) b (by omega) hb (by omega)
        ·rw [if_neg a1]
         by_cases a2 : a = j + 1
         ·rw [if_pos a2]; exact hins j b (by omega) hb (by omega)
         ·rw [if_neg a2]; exact hins a b hab hb (by omega)
      ·refine s1b (j + 1) i f hj (by omega) hm (fun _ => hlt) (pf s0 s0e s1a s1b m (i + 1) _ (by omega) (by omega) (fun a b hab hb => ?_) hm)
       rw [ms, ms]
       by_cases b1 : b = j + 1
       ·subst b1
        have k := y6 hlt
        by_cases a1 : a = j
        ·subst a1; exact k
        ·exact zO (hins a j (by omega) (by omega) (by omega)) k
       ·exact hins a b hab (by omega) b1
   exact key i _ (Nat.le_refl _) (fun a b hab hb hbi => h2 a b hab (by omega)) h3
theorem uv {P2' : Nat -> (Nat -> List V) -> Prop} {P3 : Nat -> Nat -> Nat -> (Nat -> List V) -> Prop}
 (ce : ∀ f, SSr N f -> iA N D f -> P2' N f)
 (cn : ∀ i f, 1 <= i -> i < N -> ¬ ((pq f i).1 = (pq f (i - 1)).1 /\ (pq f i).2 = (pq f (i - 1)).2) -> P2' (i + 1) (elV ty2 f) -> P2' i f)
 (cd : ∀ i f, 1 <= i -> i < N -> ((pq f i).1 = (pq f (i - 1)).1 /\ (pq f i).2 = (pq f (i - 1)).2) -> P3 1 i i (elV ty2 f) -> P2' i f)
 (ds : ∀ k off m f, 1 <= k -> off + k < N -> 1 <= m -> m <= off + k - 1 -> ¬ ((pq f (off + k)).1 = (pq f (off + (k - 1))).1 /\ (pq f (off + k)).2 = (pq f (off + (k - 1))).2) ->
   P3 (k + 1) off (m + 1) (fun i' => bif Nat.beq i' m then pv2 (pq f (off + k)) else elV ty2 f i') -> P3 k off m f)
 (dn : ∀ k off m f, 1 <= k -> off + k < N -> 1 <= m -> m <= off + k - 1 -> ((pq f (off + k)).1 = (pq f (off + (k - 1))).1 /\ (pq f (off + k)).2 = (pq f (off + (k - 1))).2) -> P3 (k + 1) off m (elV ty2 f) -> P3 k off m f)
 (de : ∀ off m f, off < N -> 1 <= m -> m < N -> SSr m f -> iA m D f -> P3 (N - off) off m f) :
 ∀ m i f, i + m = N -> 1 <= i -> Srt N f -> SSr i f -> iA N D f -> P2' i f
 | 0, i, f, h1, _, _, h2, h3 => by
   rw [show i = N by omega] at h2 ⊢; exact ce f h2 h3
 | m + 1, i, f, h1, hi, hS, h2, h3 => by
   by_cases he : (pq f i).1 = (pq f (i - 1)).1 /\ (pq f i).2 = (pq f (i - 1)).2
   ·refine cd i f hi (by omega) he ?_
    have key : ∀ r k m g, k + r = N - i -> 1 <= k -> i <= m -> m <= i + k - 1 -> (∀ t, i + k - 1 <= t -> t < N -> pq g t = pq f t) -> SSr m g -> (∀ q, (∃ a, a < m /\ pq g a = q) ↔ ∃ a, a < i + k /\ pq f a = q) -> pq g (m - 1) = pq f (i + k - 1) -> P3 k i m g := by
     intro r
     induction r with
     | zero =>
       intro k m g hk hk1 him hm hu hss hmem hl
       rw [show k = N - i by omega] at *
       refine de i m g (by omega) (by omega) (by omega) hss fun q => ?_
       rw [h3 q, hmem q, show i + (N - i) = N by omega]
     | succ r ih =>
       intro k m g hk hk1 him hm hu hss hmem hl
       have u1 := hu (i + k) (by omega) (by omega)
       have u2 := hu (i + (k - 1)) (by omega) (by omega)
       rw [show i + k - 1 = i + (k - 1) by omega] at hl
       by_cases hd : (pq g (i + k)).1 = (pq g (i + (k - 1))).1 /\ (pq g (i + k)).2 = (pq g (i + (k - 1))).2
       ·refine dn k i m g hk1 (by omega) (by omega) hm hd (ih (k + 1) m _ (by omega) (by omega) him (by omega) (fun t ht => hu t (by omega)) hss (fun q => ?_) ?_)
        ·have := hmem q
         simp only [ms]
         rw [this]
         constructor
         ·rintro ⟨a, ha, e⟩; exact ⟨a, by omega, e⟩
         ·rintro ⟨a, ha, e⟩
          by_cases ea : a = i + k
          ·subst ea
           refine ⟨i + (k - 1), by omega, ?_⟩
           rw [← e, ← u1, ← u2]; exact (Prod.ext hd.1 hd.2).symm
          ·exact ⟨a, by omega, e⟩
        ·rw [ms, hl, show i + (k + 1) - 1 = i + k by omega, ← u1, ← u2]; exact (Prod.ext hd.1 hd.2).symm
       ·have hlt : ltP (pq g (m - 1)) (pq g (i + k)) := by
         refine uq ?_ ?_
         ·rw [hl, u1]; exact hS _ _ (by omega) (by omega)
         ·rw [hl, ← u2]; exact hd
        have hs : ∀ t, pq (fun i' => bif Nat.beq i' m then pv2 (pq g (i + k)) else elV ty2 g i') t = if t = m then pq g (i + k) else pq g t := fun t => by rw [wq]; rfl
        refine ds k i m g hk1 (by omega) (by omega) hm hd (ih (k + 1) (m + 1) _ (by omega) (by omega) (by omega) (by omega) (fun t ht htN => ?_) (fun a b hab hb => ?_) (fun q => ?_) ?_)
        ·rw [hs, if_neg (by omega)]; exact hu t (by omega) htN
        ·rw [hs, hs]
         by_cases b1 : b = m
         ·rw [if_neg (by omega), if_pos b1]
          by_cases a1 : a = m - 1
          ·rw [a1]; exact hlt
          ·exact mU (hss a (m - 1) (by omega) (by omega)) hlt
         ·rw [if_neg (by omega), if_neg b1]; exact hss a b hab (by omega)
        ·constructor
         ·rintro ⟨a, ha, e⟩
          rw [hs] at e
          by_cases a1 : a = m
          ·rw [if_pos a1] at e; exact ⟨i + k, by omega, by rw [← u1]; exact e⟩
          ·rw [if_neg a1] at e
           obtain ⟨c, hc, e'⟩ := (hmem q).1 ⟨a, by omega, e⟩
           exact ⟨c, by omega, e'⟩
         ·rintro ⟨a, ha, e⟩
          by_cases a1 : a = i + k
          ·exact ⟨m, by omega, by rw [hs, if_pos rfl, u1, ← a1]; exact e⟩
          ·obtain ⟨c, hc, e'⟩ := (hmem q).2 ⟨a, by omega, e⟩
           exact ⟨c, by omega, by rw [hs, if_neg (by omega)]; exact e'⟩
        ·rw [hs, Nat.add_sub_cancel, if_pos rfl, show i + (k + 1) - 1 = i + k by omega, u1]
    refine key (N - i - 1) 1 i _ (by omega) (Nat.le_refl _) (Nat.le_refl _) (by omega) (fun t _ _ => ms f t) h2 (fun q => ?_) ?_
    ·simp only [ms]
     constructor
     ·rintro ⟨a, ha, e⟩; exact ⟨a, by omega, e⟩
     ·rintro ⟨a, ha, e⟩
      by_cases ea : a = i
      ·subst ea; exact ⟨a - 1, by omega, by rw [← e]; exact (Prod.ext he.1 he.2).symm⟩
      ·exact ⟨a, by omega, e⟩
    ·rw [ms, show i + 1 - 1 = i by omega]; exact (Prod.ext he.1 he.2).symm
   ·refine cn i f hi (by omega) he (uv ce cn cd ds dn de m (i + 1) _ (by omega) (by omega) hS (fun a b hab hb => ?_) h3)
    rw [ms, ms]
    by_cases b1 : b = i
    ·subst b1
     have hlt : ltP (pq f (b - 1)) (pq f b) := uq (hS _ _ (by omega) (by omega)) he
     by_cases a1 : a = b - 1
     ·rw [a1]; exact hlt
     ·exact mU (h2 a (b - 1) (by omega) (by omega)) hlt
    ·exact h2 a b hab (by omega)
end
theorem th {N : Nat} {g : Nat -> P2} {P : Nat -> Nat -> (Nat -> List V) -> Prop} (r1 : ∀ i j f, i < j -> j < N -> P (i + 1) (j - 1) (swF f i j) -> P i j f)
 (r2 : ∀ i j f, ¬ i < j -> (∀ k, k < N -> pq f k = g (N - 1 - k)) -> P i j f) :
 ∀ m i j f, j - i <= m -> i + j + 1 = N -> (∀ k, k < N -> pq f k = if k < i ∨ j < k then g (N - 1 - k) else g k) -> P i j f
 | m, i, j, f, hm, hN, h => by
   by_cases hij : i < j
   ·match m, hm with
    | 0, hm => omega
    | m + 1, hm =>
      refine r1 i j f hij (by omega) (th r1 r2 m (i + 1) (j - 1) _ (by omega) (by omega) fun k hk => ?_)
      rw [qr]
      by_cases k1 : k = j
      ·rw [if_pos k1, if_pos (by omega), h i (by omega), if_neg (by omega), show N - 1 - k = i by omega]
      ·rw [if_neg k1]
       by_cases k2 : k = i
       ·rw [if_pos k2, if_pos (by omega), h j (by omega), if_neg (by omega), show N - 1 - k = j by omega]
       ·rw [if_neg k2, h k hk]
        by_cases k3 : k < i ∨ j < k
        ·rw [if_pos k3, if_pos (by omega)]
        ·rw [if_neg k3, if_neg (by omega)]
   ·refine r2 i j f hij fun k hk => ?_
    rw [h k hk]
    by_cases k3 : k < i ∨ j < k
    ·rw [if_pos k3]
    ·rw [if_neg k3, show N - 1 - k = k by omega]
theorem iE {base c : List P2} {PO : Nat -> Nat -> (Nat -> List V) -> Prop} {PI : Nat -> Nat -> Nat -> (Nat -> List V) -> Prop} {M : Nat} (hM : base.length + c.length <= M)
 (hO : ∀ i n fo, i < c.length -> n <= M -> PI i n n (elV ty2 fo) -> PO i n fo)
 (hpop : ∀ i n cap fo, i < c.length -> base.length + 1 < n -> n <= cap -> cap <= M -> (∀ k, k < n -> pq fo k ∈ base ∨ pq fo k ∈ c) -> sdp (pq fo (n - 2)) (pq fo (n - 1)) (pAt c i) <= 0 -> PI i (n - 1) cap (elV ty2 fo) -> PI i n cap fo)
 (happ : ∀ i n cap fo, i < c.length -> base.length <= n -> (∀ k, k < n -> pq fo k ∈ base ∨ pq fo k ∈ c) -> (base.length + 1 < n -> 0 < sdp (pq fo (n - 2)) (pq fo (n - 1)) (pAt c i)) -> n <= cap -> cap <= M -> PO (i + 1) (n + 1) (av n (elV ty2 fo) fun _ => pv2 (pAt c i)) -> PI i n cap fo)
 (hE : ∀ n fo, ptL n fo = base ++ (aE [] c).reverse -> PO c.length n fo) :
 ∀ (l done st : List P2) (n : Nat) (fo : Nat -> List V), c = done ++ l -> aE st l = aE [] c -> ptL n fo = base ++ st.reverse -> st.length <= done.length -> (∀ q ∈ st, q ∈ c) -> PO done.length n fo
 | [], done, st, n, fo, h1, h2, h3, _, _ => by
   rw [List.append_nil] at h1
   rw [← h1]
   simp only [aE] at h2
   exact hE n fo (by rw [h3, h2])
 | p :: l, done, st, n, fo, h1, h2, h3, h4, h5 => by
   have hlen : done.length < c.length := by rw [h1]; simp
   have hp : pAt c done.length = p := by
    have := eC (l := c) hlen
    rw [h1, List.getElem?_append_right (Nat.le_refl _), Nat.sub_self] at this
    simp only [List.getElem?_cons_zero, Option.some.injEq] at this
    rw [h1]; exact this.symm
   have hnn : ∀ {st : List P2} {n fo}, ptL n fo = base ++ st.reverse -> n = base.length + st.length := fun {st n fo} h => by
    have := congrArg List.length h
    rwa [bK, List.length_append, List.length_reverse] at this
   have hn := hnn h3
   have hpc : p ∈ c := by rw [h1]; simp
   have hel : ∀ {st : List P2} {n fo}, (∀ q ∈ st, q ∈ c) -> ptL n fo = base ++ st.reverse -> ∀ k, k < n -> pq fo k ∈ base ∨ pq fo k ∈ c := fun {st n fo} hs h k hk => by
    have : pq fo k ∈ base ++ st.reverse := by rw [← h]; exact lV.2 ⟨k, hk, rfl⟩
    rcases List.mem_append.1 this with h | h
    ·exact .inl h
    ·exact .inr (hs _ (List.mem_reverse.1 h))
   refine hO done.length n fo hlen (by omega) ?_
   have fin : ∀ (st' : List P2) (n : Nat) (fo : Nat -> List V), jw p st' = st' -> st'.length <= done.length -> (∀ q ∈ st', q ∈ c) -> jw p st' = jw p st -> ptL n fo = base ++ st'.reverse -> PO (done.length + 1) (n + 1) (av n (elV ty2 fo) fun _ => pv2 (pAt c done.length)) := fun st' n fo e0 hl' hs' e hl => by
    have := iE hM hO hpop happ hE l (done ++ [p]) (p :: st') (n + 1) (av n (elV ty2 fo) fun _ => pv2 (pAt c done.length)) (by rw [h1]; simp) (by rw [← h2]; simp only [aE]; rw [← e, e0]) (by rw [pO, hl, hp]; simp) (by simp; omega) (fun q hq => by
     rcases List.mem_cons.1 hq with rfl | hq
     ·exact hpc
     ·exact hs' q hq)
    rwa [List.length_append, List.length_singleton] at this
   have key : ∀ (st' : List P2) (n : Nat) (fo : Nat -> List V), st'.length <= done.length -> (∀ q ∈ st', q ∈ c) -> jw p st' = jw p st -> ptL n fo = base ++ st'.reverse -> ∀ cap, n <= cap -> cap <= M -> PI done.length n cap fo := by
    intro st'
    induction st' with
    | nil =>
      intro n fo hsl hss hpop' hl cap hc hcM
      have hn' := hnn hl
      simp only [List.length_nil] at hn'
      refine happ done.length n cap fo hlen (by omega) (hel hss hl) (fun h => by omega) hc hcM (fin [] n fo rfl hsl hss hpop' hl)
    | cons b st' ih =>
      intro n fo hsl hss hpop' hl cap hc hcM
      cases st' with
      | nil =>
        have hn' := hnn hl
        simp only [List.length_cons, List.length_nil] at hn'
        exact happ done.length n cap fo hlen (by omega) (hel hss hl) (fun h => by omega) hc hcM (fin [b] n fo rfl hsl hss hpop' hl)
      | cons a l' =>
        have hn' := hnn hl
        simp only [List.length_cons] at hn'
        have e1 : pq fo (n - 1) = b := by
         have := pG (f := fo) (n := n) (k := n - 1) (by omega)
         rw [hl, List.getElem?_append_right (by omega), List.reverse_cons, List.reverse_cons, List.getElem?_append_right (by simp; omega)] at this
         have e : n - 1 - base.length - (l'.reverse ++ [a]).length = 0 := by simp; omega
         rw [e] at this
         simp only [List.getElem?_cons_zero, Option.some.injEq] at this
         exact this.symm
        have e2 : pq fo (n - 2) = a := by
         have := pG (f := fo) (n := n) (k := n - 2) (by omega)
         rw [hl, List.getElem?_append_right (by omega), List.reverse_cons, List.reverse_cons, List.getElem?_append_left (by simp; omega), List.getElem?_append_right (by simp; omega)] at this
         have e : n - 2 - base.length - l'.reverse.length = 0 := by simp; omega
         rw [e] at this
         simp only [List.getElem?_cons_zero, Option.some.injEq] at this
         exact this.symm
        by_cases hs : sdp a b p <= 0
        ·refine hpop done.length n cap fo hlen (by omega) hc hcM (hel hss hl) (by rw [e1, e2, hp]; exact hs) (ih (n - 1) _ (by simp only [List.length_cons] at hsl ⊢; omega) (fun q hq => hss q (List.mem_cons_of_mem _ hq)) ?_ ?_ cap (by omega) hcM)
         ·rw [← hpop']
          simp only [jw]
          rw [dqt hs]; rfl
         ·rw [EY, uM (n := n) (by omega), hl]
          rw [List.reverse_cons (a := b), ← List.append_assoc, List.take_append_of_le_length (by simp; omega), List.take_of_length_le (by simp; omega)]
        ·refine happ done.length n cap fo hlen (by omega) (hel hss hl) (fun _ => by rw [e1, e2, hp]; omega) hc hcM (fin (b :: a :: l') n fo ?_ hsl hss hpop' hl)
         simp only [jw]
         rw [dqf hs]; rfl
   exact key st n (elV ty2 fo) h4 h5 rfl h3 n (Nat.le_refl _) (by omega)
noncomputable section
def SmP (p : P2) : Prop := sm p.1 /\ sm p.2
theorem Hw {a b : P2} (ha : SmP a) (hb : SmP b) : decide (ln a.1 a.2 b.1 b.2 < 0) = true ↔ ltP a b := by
 unfold SmP sm at ha hb
 unfold ln ltP
 rw [decide_eq_true_eq]
 by_cases h : a.1 = b.1
 ·have : (a.1 != b.1) = false := by simp [h]
  rw [this, cond_false, aA (by omega) (by omega)]; omega
 ·have : (a.1 != b.1) = true := by simp [h]
  rw [this, cond_true, aA (by omega) (by omega)]; omega
theorem sdT {a b p : P2} (ha : SmP a) (hb : SmP b) (hp : SmP p) : bR a.1 a.2 b.1 b.2 p.1 p.2 = sdp a b p := by
 unfold bR; exact (Jg ha.1 ha.2 hb.1 hb.2 hp.1 hp.2).1
theorem nrT {a b p : P2} {r : Int} (ha : SmP a) (hb : SmP b) (hp : SmP p) (h7 : 0 <= r) (h8 : r <= 1073741824) : eu a.1 a.2 b.1 b.2 p.1 p.2 r = nrp a b p r := v8 ha.1 ha.2 hb.1 hb.2 hp.1 hp.2 h7 h8
theorem eqB (a b c d : Int) : (a == b && (c == d && true)) = decide (a = b /\ c = d) := by
 by_cases h1 : a = b <;> by_cases h2 : c = d <;> simp [h1, h2]
theorem wm1 {j : Nat} (h : 0 < j) (hj : j <= 1000) : IntKind.i64.wrap ((j : Int) - 1) = ((j - 1 : Nat) : Int) := by rw [aA (by omega) (by omega)]; omega
theorem wm2 {j : Nat} (h : 1 < j) (hj : j <= 1000) : IntKind.i64.wrap ((j : Int) - 2) = ((j - 2 : Nat) : Int) := by rw [aA (by omega) (by omega)]; omega
theorem wp1 {j : Nat} (hj : j <= 1000) : IntKind.i64.wrap ((j : Int) + 1) = ((j + 1 : Nat) : Int) := by rw [aA (by omega) (by omega)]; omega
theorem er {S : Type} {Nx : S -> V -> Prop} {r : V} {C b1 b2 b3 b4 s : Bool} {X Y Z : RT S} (hb : C = true -> b1 = true /\ b2 = true /\ b3 = true /\ b4 = true) (hX : C = true -> s = true -> evR Nx X r) (hY : C = true -> s = false -> evR Nx Y r) (hZ : C = false -> evR Nx Z r) :
 evR Nx (.obi (.obi (.obi (.obi (.obj C b1 (.obi (.obj C b2 (.obi (.obi (.obi (.obi (.obj C b3 (.obi (.obj C b4 (.obi (.obi (.br C (.ob C (.ob C (.obc (.obt (.br s X Y))))) Z))))))))))))))))) r :=
 ak (ak (ak (ak (eJ (fun h => (hb h).1) (ak (eJ (fun h => (hb h).2.1) (ak (ak (ak (ak (eJ (fun h => (hb h).2.2.1) (ak (eJ (fun h => (hb h).2.2.2) (ak (ak (aL (fun h => ac h (ac h (ar (af (aL (hX h) (hY h)))))) hZ))))))))))))))))
def tpB (H : List P2) (m : P2) (r : Int) : Bool := @decide (TP H m r) (Classical.propDecidable _)
theorem Es {H : List P2} {m : P2} {r : Int} (h : TP H m r) : tpB H m r = true := @dqt _ (Classical.propDecidable _) h
theorem HW {H : List P2} {m : P2} {r : Int} (h : ¬ TP H m r) : tpB H m r = false := @dqf _ (Classical.propDecidable _) h
theorem iC {n cap : Nat} (h : n <= cap) (hc : cap <= 1000) : (decide (n <= cap /\ (n + 1) * 16 <= 140737488355328) && !Nat.beq 16 0) = true := by
 rw [Bool.and_eq_true]; exact ⟨dqt ⟨h, by omega⟩, rfl⟩
theorem dW {n : Nat} {f : Nat -> List V} {k : Nat} (h : k < n) : pAt (ptL n f) k = pq f k := by
 have h1 := eC (l := ptL n f) (i := k) (by rw [bK]; exact h)
 rw [pG h] at h1
 exact (Option.some.inj h1).symm
theorem tO {c : List P2} (h : 2 <= c.length) : cV c = (aE [] c).tail.reverse ++ (aE [] c.reverse).tail.reverse := by
 match c, h with
 | a :: b :: l, _ => rfl
theorem SSr.cong {m : Nat} {f g : Nat -> List V} (h : SSr m f) (e : ∀ k, k < m -> pq g k = pq f k) : SSr m g := fun a b h1 h2 => by rw [e a (by omega), e b h2]; exact h a b h1 h2
theorem iA.cong {m : Nat} {D : P2 -> Prop} {f g : Nat -> List V} (h : iA m D f) (e : ∀ k, k < m -> pq g k = pq f k) : iA m D g := fun q => by
 rw [h q]
 exact ⟨fun ⟨k, hk, h⟩ => ⟨k, hk, by rw [e k hk]; exact h⟩, fun ⟨k, hk, h⟩ => ⟨k, hk, by rw [← e k hk]; exact h⟩⟩
theorem sQ {f : Nat -> List V} {l : List V} {m n k : Nat} (h : k < m) : pq (fun i => bif Nat.ble m i && Nat.ble i.succ n then l else elV ty2 f i) k = pq f k := by
 unfold pq
 dsimp only
 have : Nat.ble m k = false := by
  cases hb : Nat.ble m k with
  | false => rfl
  | true => have := Nat.le_of_ble_eq_true hb; omega
 rw [this]; rfl
theorem BA {m : Nat} {f : Nat -> List V} (h : SSr m f) : (ptL m f).Pairwise ltP := by
 unfold ptL
 rw [List.pairwise_map]
 refine List.Pairwise.imp_of_mem ?_ (List.pairwise_lt_range (n := m))
 intro a b ha hb hab
 exact h a b hab (List.mem_range.1 hb)
theorem yE {m : Nat} {f g : Nat -> List V} (h : ∀ k, k < m -> pq g k = pq f (m - 1 - k)) : ptL m g = (ptL m f).reverse := by
 apply List.ext_getElem?
 intro k
 by_cases hk : k < m
 ·rw [pG hk, List.getElem?_reverse (by rw [bK]; exact hk), bK, pG (by omega), h k hk]
 ·rw [List.getElem?_eq_none (by rw [bK]; omega), List.getElem?_eq_none (by rw [List.length_reverse, bK]; omega)]
theorem tQ {m : Nat} {f g : Nat -> List V} (h : ∀ k, k < m -> pq g k = pq f k) : ptL m g = ptL m f := by
 unfold ptL; exact List.map_congr_left fun k hk => h k (List.mem_range.1 hk)
theorem lL {n : Nat} {f : Nat -> List V} {base st : List P2} (h : ptL n f = base ++ st.reverse) (hs : st ≠ []) : 0 < n /\ ptL (n - 1) f = base ++ st.tail.reverse /\ n = base.length + st.length /\ 0 < st.length := by
 have hl := congrArg List.length h
 rw [bK, List.length_append, List.length_reverse] at hl
 match st, hs with
 | s :: l, _ =>
   simp only [List.length_cons] at hl
   refine ⟨by omega, ?_, by simp only [List.length_cons]; omega, by simp⟩
   rw [uM (n := n) (by omega), h, List.reverse_cons, ← List.append_assoc, List.take_append_of_le_length (by simp; omega), List.take_of_length_le (by simp; omega)]; rfl
theorem vd {p q : P2} : ∀ {st : List P2}, q ∈ jw p st -> q ∈ st
 | [], h => h
 | [s], h => h
 | b :: a :: l, h => by
   simp only [jw] at h
   cases hd : decide (sdp a b p <= 0) with
   | true => rw [hd] at h; exact List.mem_cons_of_mem _ (vd h)
   | false => rw [hd] at h; exact h
theorem gA {q : P2} : ∀ {l st : List P2}, q ∈ aE st l -> q ∈ st ∨ q ∈ l
 | [], st, h => .inl h
 | p :: l, st, h => by
   simp only [aE] at h
   rcases gA h with h | h
   ·rcases List.mem_cons.1 h with rfl | h
    ·exact .inr (by simp)
    ·exact .inl (vd h)
   ·exact .inr (List.mem_cons_of_mem _ h)
theorem iL : ∀ {l st : List P2}, st ≠ [] ∨ l ≠ [] -> aE st l ≠ []
 | [], st, h => by
   rcases h with h | h
   ·exact h
   ·exact (h rfl).elim
 | p :: l, st, _ => iL (l := l) (.inl (by simp))
theorem vp {p : P2} : ∀ {st : List P2}, (jw p st).length <= st.length
 | [] => Nat.le_refl _
 | [_] => Nat.le_refl _
 | b :: a :: l => by
   simp only [jw]
   cases decide (sdp a b p <= 0) with
   | true => have := vp (p := p) (st := a :: l); simp only [List.length_cons, cond_true] at *; omega
   | false => exact Nat.le_refl _
theorem d5 : ∀ {l st : List P2}, (aE st l).length <= st.length + l.length
 | [], st => Nat.le_refl _
 | p :: l, st => by
   simp only [aE]
   have := d5 (l := l) (st := p :: jw p st)
   have := vp (p := p) (st := st)
   simp only [List.length_cons] at *; omega
theorem zY {q : P2} {c : List P2} (h : q ∈ cV c) : q ∈ c := by
 match c, h with
 | [a], h => exact h
 | a :: b :: l, h =>
   rcases List.mem_append.1 h with h | h
   ·rcases gA (List.mem_of_mem_tail (List.mem_reverse.1 h)) with h | h
    ·cases h
    ·exact h
   ·rcases gA (List.mem_of_mem_tail (List.mem_reverse.1 h)) with h | h
    ·cases h
    ·exact List.mem_reverse.1 h
theorem EW {c : List P2} (h : c.length < 3) : cV c = c := by
 match c, h with
 | [], _ => rfl
 | [a], _ => rfl
 | [a, b], _ => rfl
theorem Ab {c : List P2} (hs : c.Pairwise ltP) (h : c ≠ []) : 0 < (cV c).length := by
 match c, hs, h with
 | [a], _, _ => simp [cV]
 | a :: b :: l, hs, _ =>
   obtain ⟨z, H⟩ := sA hs (by simp)
   have := H.lenA
   simp only [cV, List.length_append, List.length_reverse, List.length_tail]; omega
def zZ (L : List P2) (m : P2) (r : Int) : Bool := @decide (sK (fun q => q ∈ L) m r) (Classical.propDecidable _)
theorem Db {c L : List P2} (hs : c.Pairwise ltP) (h0 : c ≠ []) (hm : ∀ q, q ∈ L ↔ q ∈ c) {m : P2} {r : Int} (hr : 0 <= r) : tpB (cV c) m r = zZ L m r := by
 unfold tpB zZ
 have : sK (fun q => q ∈ L) m r ↔ TP (cV c) m r := by
  rw [BK hs h0 hr, show (fun q => q ∈ L) = fun q => q ∈ c from funext fun q => propext (hm q)]
 by_cases h : TP (cV c) m r
 ·rw [@dqt _ (Classical.propDecidable _) h, @dqt _ (Classical.propDecidable _) (this.2 h)]
 ·rw [@dqf _ (Classical.propDecidable _) h, @dqf _ (Classical.propDecidable _) fun g => h (this.1 g)]
end
end Go.Dx
namespace Go.Dx
open Go.IntKind (i64 u64 u8)
open Go.Sx Go.Proofs
noncomputable section
def fw : bj := [(131, .con AL), (19, .con C19), (22, .con C22), (25, .con C25), (15, .con C15), (55, .con C55), (61, .con C61), (74, .con C74), (108, .con Bi), (46, .con C46), (111, .con zd), (56, .con C56), (47, .con C47), (145, .con Ac), (140, .con Ah), (49, .con C49), (123, .con z8), (44, .con C44), (23, .con C23), (62, .con C62), (68, .con C68), (63, .con C63), (69, .con C69), (117, .inl Bw u0), (116, .inl BY u0), (115, .con zr), (114, .con zU), (147, .con yQ), (64, .con C64), (66, .con C66), (113, .con v7), (65, .con C65), (67, .con C67), (53, .con C53), (45, .con C45), (90, .con C90), (119, .con wj), (121, .con wm), (99, .con C99), (129, .con vw), (148, .con wT), (149, .con vJ), (112, .con wI), (118, .con wz), (120, .con vZ), (133, .con wZ), (103, .con vY), (100, .con wA), (134, .con ww), (135, .con wH), (78, .con C78), (54, .con C54), (48, .con C48), (102, .con wC), (84, .con C84), (85, .con C85), (127, .con wQ), (101, .con wp), (86, .con C86), (162, .con wo), (146, .con wS), (83, .inl s83 u0), (109, .inl I9 u0), (139, .inl Hs u0), (177, .inl JY u0), (141, .inl IU u0), (142, .inl Jy u0), (143, .inl JF u0), (163, .inl H8 u5)]
theorem G6 : be Tryz.prog eqs its fw := .con Bz (.con Dz (.con C7 (.con CO (.con Da (.con C3 (.con C4 (.con CZ (.con xI (.con Ec (.con ue (.con BN (.con CG (.con um (.con tS (.con Bh (.con va (.con Ay (.con Bd (.con Ap (.con Bn (.con Cn (.con AP (.inl Tryz.func117 (by kernel_rfl) (by kernel_rfl) (by kernel_rfl) (.inl Tryz.func116 (by kernel_rfl) (by kernel_rfl) (by kernel_rfl) (.con uU (.con uo (.con uz (.con Cz (.con CB (.con qQ (.con y9 (.con yN (.con z7 (.con zt (.con yZ (.con r0 (.con rU (.con zS (.con qZ (.con rC (.con qP (.con rP (.con rh (.con qW (.con rY (.con q9 (.con r6 (.con rJ (.con qK (.con zu (.con zb (.con zB (.con rD (.con zq (.con zp (.con rL (.con rp (.con zw (.con ra (.con uk (.inl Tryz.func83 (by kernel_rfl) (by kernel_rfl) (by kernel_rfl) (.inl Tryz.func109 (by kernel_rfl) (by kernel_rfl) (by kernel_rfl) (.inl Tryz.func139 (by kernel_rfl) (by kernel_rfl) (by kernel_rfl) (.inl Tryz.func177 (by kernel_rfl) (by kernel_rfl) (by kernel_rfl) (.inl Tryz.func141 (by kernel_rfl) (by kernel_rfl) (by kernel_rfl) (.inl Tryz.func142 (by kernel_rfl) (by kernel_rfl) (by kernel_rfl) (.inl Tryz.func143 (by kernel_rfl) (by kernel_rfl) (by kernel_rfl) (.inl Tryz.func163 (by kernel_rfl) (by kernel_rfl) (by kernel_rfl) (.nil)))))))))))))))))))))))))))))))))))))))))))))))))))))))))))))))))))))
def u57 : Unr := fun k => bif Nat.beq k 0 then 5 else 0
inductive S57 where
 | L0 (ia0 : Int) (fa1 : Nat -> List V)
 | L1 (ib0 ib1 : Int) (fb2 : Nat -> List V)
 | L2 (ic0 : Int) (fc1 : Nat -> List V) (ic2 : Int) (fc3 : Nat -> List V)
 | L3 (id0 : Int) (nd1 nd2 : Nat) (id3 id4 id5 : Int) (nd6 : Nat) (id7 id8 : Int) (fd9 : Nat -> List V) (id10 : Int) (fd11 : Nat -> List V)
 | L4 (ie0 : Int) (fe1 : Nat -> List V) (ne2 : Nat) (fe3 : Nat -> List V) (ie4 : Int) (fe5 : Nat -> List V)
 | L5 (if0 if1 : Int) (nf2 : Nat) (bf3 : Bool) (nf4 : Nat) (ff5 : Nat -> List V)
 | L7 (ih0 : Int) (fh1 : Nat -> List V) (nh2 : Nat) (ih3 ih4 : Int) (nh5 : Nat) (fh6 : Nat -> List V) (ih7 : Int) (fh8 : Nat -> List V)
 | L12 (im0 im1 : Int) (nm2 : Nat) (fm3 : Nat -> List V) (nm4 : Nat) (fm5 : Nat -> List V) (im6 : Int) (nm7 nm8 : Nat) (im9 im10 im11 : Int) (nm12 : Nat) (im13 im14 : Int) (fm15 : Nat -> List V)
 | L13 (in0 in1 : Int) (fn2 : Nat -> List V) (nn3 nn4 : Nat) (fn5 : Nat -> List V) (in6 : Int) (fn7 : Nat -> List V)
 | L14 (io0 io1 : Int) (no2 : Nat) (fo3 : Nat -> List V) (no4 : Nat) (io5 io6 : Int) (no7 : Nat) (fo8 : Nat -> List V) (io9 : Int) (no10 no11 : Nat) (io12 io13 io14 : Int) (no15 : Nat) (io16 io17 : Int) (fo18 : Nat -> List V)
 | L15 (ip0 ip1 ip2 : Int) (np3 : Nat) (fp4 : Nat -> List V) (np5 np6 : Nat) (fp7 : Nat -> List V) (ip8 : Int) (np9 np10 : Nat) (ip11 ip12 ip13 : Int) (np14 : Nat) (ip15 ip16 : Int) (fp17 : Nat -> List V)
 | L18 (is0 : Int) (fs1 : Nat -> List V) (ns2 ns3 : Nat) (fs4 : Nat -> List V) (is5 is6 : Int) (fs7 : Nat -> List V) (fs8 : Nat -> List V) (is9 : Int) (fs10 : Nat -> List V)
 | L20 (iu0 : Int) (fu1 : Nat -> List V) (nu2 nu3 : Nat) (fu4 : Nat -> List V) (iu5 iu6 iu7 iu8 : Int) (fu9 : Nat -> List V) (nu10 : Nat) (fu11 : Nat -> List V) (iu12 : Int) (fu13 : Nat -> List V)
 | L22 (iw0 iw1 : Int) (fw2 : Nat -> List V) (nw3 : Nat) (iw4 iw5 : Int) (fw6 : Nat -> List V) (iw7 iw8 : Int) (fw9 : Nat -> List V) (nw10 nw11 : Nat) (fw12 : Nat -> List V) (iw13 : Int) (fw14 : Nat -> List V)
 | L23 (ix0 ix1 : Int) (fx2 : Nat -> List V) (nx3 : Nat) (ix4 ix5 : Int) (nx6 : Nat) (fx7 : Nat -> List V) (ix8 ix9 : Int) (fx10 : Nat -> List V) (nx11 nx12 : Nat) (fx13 : Nat -> List V) (ix14 : Int) (fx15 : Nat -> List V)
 | L24 (iy0 : Int) (ny1 : Nat) (iy2 : Int) (fy3 : Nat -> List V) (ny4 ny5 : Nat) (fy6 : Nat -> List V) (iy7 iy8 iy9 : Int) (ny10 : Nat) (fy11 : Nat -> List V) (fy12 : Nat -> List V) (iy13 : Int) (ny14 ny15 : Nat) (iy16 iy17 iy18 : Int) (ny19 : Nat) (iy20 iy21 : Int) (fy22 : Nat -> List V)
 | L25 (iz0 : Int) (nz1 : Nat) (iz2 : Int) (fz3 : Nat -> List V) (nz4 nz5 : Nat) (fz6 : Nat -> List V) (iz7 iz8 iz9 iz10 iz11 : Int) (nz12 : Nat) (fz13 : Nat -> List V) (nz14 : Nat) (fz15 : Nat -> List V) (iz16 : Int) (nz17 nz18 : Nat) (iz19 iz20 iz21 : Int) (nz22 : Nat) (iz23 iz24 : Int) (fz25 : Nat -> List V)
 | L26 (iza0 iza1 : Int) (nza2 : Nat) (iza3 : Int) (fza4 : Nat -> List V) (nza5 : Nat) (iza6 iza7 : Int) (fza8 : Nat -> List V) (iza9 iza10 iza11 : Int) (nza12 : Nat) (fza13 : Nat -> List V) (nza14 nza15 : Nat) (fza16 : Nat -> List V) (iza17 : Int) (nza18 nza19 : Nat) (iza20 iza21 iza22 : Int) (nza23 : Nat) (iza24 iza25 : Int) (fza26 : Nat -> List V)
 | L27 (izb0 izb1 : Int) (nzb2 : Nat) (izb3 : Int) (fzb4 : Nat -> List V) (nzb5 : Nat) (izb6 izb7 : Int) (nzb8 : Nat) (fzb9 : Nat -> List V) (izb10 izb11 izb12 : Int) (nzb13 : Nat) (fzb14 : Nat -> List V) (nzb15 nzb16 : Nat) (fzb17 : Nat -> List V) (izb18 : Int) (nzb19 nzb20 : Nat) (izb21 izb22 izb23 : Int) (nzb24 : Nat) (izb25 izb26 : Int) (fzb27 : Nat -> List V)
def jR (x0 x1 x2 x3 x4 x5 x6 x7 : Int) (b8 : Bool) (x9 x10 x11 x12 : Int) (l : List O) : List O := O.cells [vi x0, vi x1, vi x2, vi x3, vi x4, vi x5, vi x6, vi x7, V.bool b8] 97 :: O.cells [vi x9, vi x10, vi x11, vi x12] 29 :: O.cells [vi x9, vi x10] 95 :: O.cells [vi (aW x0 x2 x9 x3), vi (aV x1 x2 x10 x3), vi (aW x0 x2 x9 x4), vi (aV x1 x2 x10 x4)] 95 :: O.hid :: O.cells [vi x11, vi x10] 95 :: O.cells [vi (aW x0 x2 x11 x3), vi (aV x1 x2 x10 x3), vi (aW x0 x2 x11 x4), vi (aV x1 x2 x10 x4)] 95 :: O.hid :: O.cells [vi x11, vi x12] 95 :: O.cells [vi (aW x0 x2 x11 x3), vi (aV x1 x2 x12 x3), vi (aW x0 x2 x11 x4), vi (aV x1 x2 x12 x4)] 95 :: O.hid :: O.cells [vi x9, vi x12] 95 :: O.cells [vi (aW x0 x2 x9 x3), vi (aV x1 x2 x12 x3), vi (aW x0 x2 x9 x4), vi (aV x1 x2 x12 x4)] 95 :: l
def ge (x0 x1 x2 x3 x4 x5 x6 x7 : Int) (b8 : Bool) (x9 x10 x11 x12 : Int) : S57 -> Env × List O × Option Ex
 | .L0 ia0 fa1 => ([(8, vi ia0), (0, V.gs 13 8), (1, vi 0), (2, vi (↑8 : Int)), (3, V.fn 140 [] [])], jR x0 x1 x2 x3 x4 x5 x6 x7 b8 x9 x10 x11 x12 [O.gl 2 8 (elV tp2 fa1) 95], none)
 | .L1 ib0 ib1 fb2 => ([(9, vi ib0), (8, vi ib1), (0, V.gs 13 8), (1, vi 0), (2, vi (↑8 : Int)), (3, V.fn 140 [] [])], jR x0 x1 x2 x3 x4 x5 x6 x7 b8 x9 x10 x11 x12 [O.gl 2 8 (elV tp2 fb2) 95], none)
 | .L2 ic0 fc1 ic2 fc3 => ([(3, vi ic0), (8, V.kb false), (2, V.ns), (0, V.gs 13 8)], jR x0 x1 x2 x3 x4 x5 x6 x7 b8 x9 x10 x11 x12 [O.gl 2 8 (elV tp2 fc1) 95], none)
 | .L3 id0 nd1 nd2 id3 id4 id5 nd6 id7 id8 fd9 id10 fd11 => ([(5, vi id0), (4, V.go 13 nd1 nd2), (28, V.go 13 nd1 nd2), (27, vi id3), (26, V.gs 13 8), (25, V.kb true), (24, V.agg [vi id4, vi id5]), (23, V.pe 13 nd6 0), (22, vi id7), (21, vi id3), (20, V.gs 13 8), (10, vi id3), (3, vi id8), (8, V.kb false), (2, V.ns), (0, V.gs 13 8)], jR x0 x1 x2 x3 x4 x5 x6 x7 b8 x9 x10 x11 x12 [O.gl 2 8 (elV tp2 fd9) 95], none)
 | .L4 ie0 fe1 ne2 fe3 ie4 fe5 => ([(10, vi ie0), (9, vi (↑8 : Int)), (8, V.gs 13 8), (3, vi 0), (0, V.gs 13 8), (1, V.pl 14 0)], jR x0 x1 x2 x3 x4 x5 x6 x7 b8 x9 x10 x11 x12 [O.gl 2 8 (elV tp2 fe1) 95, O.cells [V.gs 15 ne2] 111, O.gl 2 ne2 (elV tp2 fe3) 95], none)
 | .L5 if0 if1 nf2 bf3 nf4 ff5 => ([(40, vi if0), (39, vi if1), (38, V.gs 0 nf2), (8, V.bool bf3), (5, V.gs 0 nf2), (16, vi (i64.wrap (i64.wrap (i64.wrap (i64.wrap (0 + 1) + 1) + 1) + 1))), (15, V.agg [vi x9, vi x10, vi x11, vi x10, vi x11, vi x12, vi x9, vi x12]), (2, V.pl 1 0)], [O.gl 2 nf4 (elV tp2 ff5) 95, O.cells [vi x0, vi x1, vi x2, vi x3, vi x4, vi x5, vi x6, vi x7, V.bool b8] 97], none)
 | .L7 ih0 fh1 nh2 ih3 ih4 nh5 fh6 ih7 fh8 => ([(5, V.pl 15 0), (10, vi ih0), (9, vi (↑8 : Int)), (8, V.gs 13 8), (3, vi 0), (0, V.gs 13 8), (1, V.pl 14 0)], jR x0 x1 x2 x3 x4 x5 x6 x7 b8 x9 x10 x11 x12 [O.gl 2 8 (elV tp2 fh1) 95, O.cells [V.gs 16 nh2] 111, O.cells [vi ih3, vi ih4] 95, O.gl 2 nh5 (elV tp2 fh6) 95], none)
 | .L12 im0 im1 nm2 fm3 nm4 fm5 im6 nm7 nm8 im9 im10 im11 nm12 im13 im14 fm15 => ([(10, vi im0), (9, vi im1), (8, V.gs 13 nm2), (3, vi 0), (0, V.gs 13 nm2), (1, V.pl 14 0)], jR x0 x1 x2 x3 x4 x5 x6 x7 b8 x9 x10 x11 x12 [O.gl 2 8 (elV tp2 fm3) 95, O.cells [V.gs 15 nm4] 111, O.gl 2 nm4 (elV tp2 fm5) 95], none)
 | .L13 in0 in1 fn2 nn3 nn4 fn5 in6 fn7 => ([(3, vi in0), (2, vi in1), (5, vi (↑8 : Int)), (4, V.gs 13 8), (0, V.gs 13 8)], jR x0 x1 x2 x3 x4 x5 x6 x7 b8 x9 x10 x11 x12 [O.gl 2 8 (elV tp2 fn2) 95, O.cells [V.gs 15 nn3] 111, O.gl 2 nn4 (elV tp2 fn5) 95], none)
 | .L14 io0 io1 no2 fo3 no4 io5 io6 no7 fo8 io9 no10 no11 io12 io13 io14 no15 io16 io17 fo18 => ([(5, V.pl 15 0), (10, vi io0), (9, vi io1), (8, V.gs 13 no2), (3, vi 0), (0, V.gs 13 no2), (1, V.pl 14 0)], jR x0 x1 x2 x3 x4 x5 x6 x7 b8 x9 x10 x11 x12 [O.gl 2 8 (elV tp2 fo3) 95, O.cells [V.gs 16 no4] 111, O.cells [vi io5, vi io6] 95, O.gl 2 no7 (elV tp2 fo8) 95], none)
 | .L15 ip0 ip1 ip2 np3 fp4 np5 np6 fp7 ip8 np9 np10 ip11 ip12 ip13 np14 ip15 ip16 fp17 => ([(3, vi ip0), (2, vi ip1), (5, vi ip2), (4, V.gs 13 np3), (0, V.gs 13 np3)], jR x0 x1 x2 x3 x4 x5 x6 x7 b8 x9 x10 x11 x12 [O.gl 2 8 (elV tp2 fp4) 95, O.cells [V.gs 15 np5] 111, O.gl 2 np6 (elV tp2 fp7) 95], none)
 | .L18 is0 fs1 ns2 ns3 fs4 is5 is6 fs7 fs8 is9 fs10 => ([(10, vi 0), (9, vi (↑8 : Int)), (8, V.gs 13 8), (3, vi is0), (0, V.gs 13 8), (1, V.pl 14 0)], jR x0 x1 x2 x3 x4 x5 x6 x7 b8 x9 x10 x11 x12 [O.gl 2 8 (elV tp2 fs1) 95, O.cells [V.gs 15 ns2] 111, O.gl 2 ns3 (elV tp2 fs4) 95], none)
 | .L20 iu0 fu1 nu2 nu3 fu4 iu5 iu6 iu7 iu8 fu9 nu10 fu11 iu12 fu13 => ([(5, V.pl 16 0), (10, vi 0), (9, vi (↑8 : Int)), (8, V.gs 13 8), (3, vi iu0), (0, V.gs 13 8), (1, V.pl 14 0)], jR x0 x1 x2 x3 x4 x5 x6 x7 b8 x9 x10 x11 x12 [O.gl 2 8 (elV tp2 fu1) 95, O.cells [V.gs 15 nu2] 111, O.gl 2 nu3 (elV tp2 fu4) 95, O.cells [vi iu5, vi iu6] 95], none)
 | .L22 iw0 iw1 fw2 nw3 iw4 iw5 fw6 iw7 iw8 fw9 nw10 nw11 fw12 iw13 fw14 => ([(10, vi iw0), (5, V.pl 16 0), (9, vi (↑8 : Int)), (8, V.gs 13 8), (3, vi iw1), (0, V.gs 13 8), (1, V.pl 14 0)], jR x0 x1 x2 x3 x4 x5 x6 x7 b8 x9 x10 x11 x12 [O.gl 2 8 (elV tp2 fw2) 95, O.cells [V.gs 17 nw3] 111, O.hid, O.cells [vi iw4, vi iw5] 95, O.gl 2 nw3 (elV tp2 fw6) 95], none)
 | .L23 ix0 ix1 fx2 nx3 ix4 ix5 nx6 fx7 ix8 ix9 fx10 nx11 nx12 fx13 ix14 fx15 => ([(5, V.pl 16 0), (10, vi ix0), (9, vi (↑8 : Int)), (8, V.gs 13 8), (3, vi ix1), (0, V.gs 13 8), (1, V.pl 14 0)], jR x0 x1 x2 x3 x4 x5 x6 x7 b8 x9 x10 x11 x12 [O.gl 2 8 (elV tp2 fx2) 95, O.cells [V.gs 17 nx3] 111, O.hid, O.cells [vi ix4, vi ix5] 95, O.gl 2 nx6 (elV tp2 fx7) 95], none)
 | .L24 iy0 ny1 iy2 fy3 ny4 ny5 fy6 iy7 iy8 iy9 ny10 fy11 fy12 iy13 ny14 ny15 iy16 iy17 iy18 ny19 iy20 iy21 fy22 => ([(10, vi 0), (9, vi iy0), (8, V.gs 13 ny1), (3, vi iy2), (0, V.gs 13 ny1), (1, V.pl 14 0)], jR x0 x1 x2 x3 x4 x5 x6 x7 b8 x9 x10 x11 x12 [O.gl 2 8 (elV tp2 fy3) 95, O.cells [V.gs 15 ny4] 111, O.gl 2 ny5 (elV tp2 fy6) 95], none)
 | .L25 iz0 nz1 iz2 fz3 nz4 nz5 fz6 iz7 iz8 iz9 iz10 iz11 nz12 fz13 nz14 fz15 iz16 nz17 nz18 iz19 iz20 iz21 nz22 iz23 iz24 fz25 => ([(5, V.pl 16 0), (10, vi 0), (9, vi iz0), (8, V.gs 13 nz1), (3, vi iz2), (0, V.gs 13 nz1), (1, V.pl 14 0)], jR x0 x1 x2 x3 x4 x5 x6 x7 b8 x9 x10 x11 x12 [O.gl 2 8 (elV tp2 fz3) 95, O.cells [V.gs 15 nz4] 111, O.gl 2 nz5 (elV tp2 fz6) 95, O.cells [vi iz7, vi iz8] 95], none)
 | .L26 iza0 iza1 nza2 iza3 fza4 nza5 iza6 iza7 fza8 iza9 iza10 iza11 nza12 fza13 nza14 nza15 fza16 iza17 nza18 nza19 iza20 iza21 iza22 nza23 iza24 iza25 fza26 => ([(10, vi iza0), (5, V.pl 16 0), (9, vi iza1), (8, V.gs 13 nza2), (3, vi iza3), (0, V.gs 13 nza2), (1, V.pl 14 0)], jR x0 x1 x2 x3 x4 x5 x6 x7 b8 x9 x10 x11 x12 [O.gl 2 8 (elV tp2 fza4) 95, O.cells [V.gs 17 nza5] 111, O.hid, O.cells [vi iza6, vi iza7] 95, O.gl 2 nza5 (elV tp2 fza8) 95], none)
 | .L27 izb0 izb1 nzb2 izb3 fzb4 nzb5 izb6 izb7 nzb8 fzb9 izb10 izb11 izb12 nzb13 fzb14 nzb15 nzb16 fzb17 izb18 nzb19 nzb20 izb21 izb22 izb23 nzb24 izb25 izb26 fzb27 => ([(5, V.pl 16 0), (10, vi izb0), (9, vi izb1), (8, V.gs 13 nzb2), (3, vi izb3), (0, V.gs 13 nzb2), (1, V.pl 14 0)], jR x0 x1 x2 x3 x4 x5 x6 x7 b8 x9 x10 x11 x12 [O.gl 2 8 (elV tp2 fzb4) 95, O.cells [V.gs 17 nzb5] 111, O.hid, O.cells [vi izb6, vi izb7] 95, O.gl 2 nzb8 (elV tp2 fzb9) 95], none)
def Li : S57 -> JJ
 | .L0 ia0 fa1 => (0, [])
 | .L1 ib0 ib1 fb2 => (1, [])
 | .L2 ic0 fc1 ic2 fc3 => (2, [Cx.i ic2, Cx.f fc3])
 | .L3 id0 nd1 nd2 id3 id4 id5 nd6 id7 id8 fd9 id10 fd11 => (3, [Cx.i id10, Cx.f fd11])
 | .L4 ie0 fe1 ne2 fe3 ie4 fe5 => (4, [Cx.i ie4, Cx.f fe5])
 | .L5 if0 if1 nf2 bf3 nf4 ff5 => (5, [])
 | .L7 ih0 fh1 nh2 ih3 ih4 nh5 fh6 ih7 fh8 => (7, [Cx.i ih7, Cx.f fh8])
 | .L12 im0 im1 nm2 fm3 nm4 fm5 im6 nm7 nm8 im9 im10 im11 nm12 im13 im14 fm15 => (12, [Cx.i im6, Cx.n nm7, Cx.n nm8, Cx.i im9, Cx.i im10, Cx.i im11, Cx.n nm12, Cx.i im13, Cx.i im14, Cx.f fm15])
 | .L13 in0 in1 fn2 nn3 nn4 fn5 in6 fn7 => (13, [Cx.i in6, Cx.f fn7])
 | .L14 io0 io1 no2 fo3 no4 io5 io6 no7 fo8 io9 no10 no11 io12 io13 io14 no15 io16 io17 fo18 => (14, [Cx.i io9, Cx.n no10, Cx.n no11, Cx.i io12, Cx.i io13, Cx.i io14, Cx.n no15, Cx.i io16, Cx.i io17, Cx.f fo18])
 | .L15 ip0 ip1 ip2 np3 fp4 np5 np6 fp7 ip8 np9 np10 ip11 ip12 ip13 np14 ip15 ip16 fp17 => (15, [Cx.i ip8, Cx.n np9, Cx.n np10, Cx.i ip11, Cx.i ip12, Cx.i ip13, Cx.n np14, Cx.i ip15, Cx.i ip16, Cx.f fp17])
 | .L18 is0 fs1 ns2 ns3 fs4 is5 is6 fs7 fs8 is9 fs10 => (18, [Cx.i is5, Cx.i is6, Cx.f fs7, Cx.n ns2, Cx.n ns3, Cx.f fs8, Cx.i is9, Cx.f fs10])
 | .L20 iu0 fu1 nu2 nu3 fu4 iu5 iu6 iu7 iu8 fu9 nu10 fu11 iu12 fu13 => (20, [Cx.i iu7, Cx.i iu8, Cx.f fu9, Cx.n nu10, Cx.n nu3, Cx.f fu11, Cx.i iu12, Cx.f fu13])
 | .L22 iw0 iw1 fw2 nw3 iw4 iw5 fw6 iw7 iw8 fw9 nw10 nw11 fw12 iw13 fw14 => (18, [Cx.i iw7, Cx.i iw8, Cx.f fw9, Cx.n nw10, Cx.n nw11, Cx.f fw12, Cx.i iw13, Cx.f fw14])
 | .L23 ix0 ix1 fx2 nx3 ix4 ix5 nx6 fx7 ix8 ix9 fx10 nx11 nx12 fx13 ix14 fx15 => (20, [Cx.i ix8, Cx.i ix9, Cx.f fx10, Cx.n nx11, Cx.n nx12, Cx.f fx13, Cx.i ix14, Cx.f fx15])
 | .L24 iy0 ny1 iy2 fy3 ny4 ny5 fy6 iy7 iy8 iy9 ny10 fy11 fy12 iy13 ny14 ny15 iy16 iy17 iy18 ny19 iy20 iy21 fy22 => (24, [Cx.i iy7, Cx.i iy8, Cx.i iy9, Cx.n ny10, Cx.f fy11, Cx.n ny4, Cx.n ny5, Cx.f fy12, Cx.i iy13, Cx.n ny14, Cx.n ny15, Cx.i iy16, Cx.i iy17, Cx.i iy18, Cx.n ny19, Cx.i iy20, Cx.i iy21, Cx.f fy22])
 | .L25 iz0 nz1 iz2 fz3 nz4 nz5 fz6 iz7 iz8 iz9 iz10 iz11 nz12 fz13 nz14 fz15 iz16 nz17 nz18 iz19 iz20 iz21 nz22 iz23 iz24 fz25 => (25, [Cx.i iz9, Cx.i iz10, Cx.i iz11, Cx.n nz12, Cx.f fz13, Cx.n nz14, Cx.n nz5, Cx.f fz15, Cx.i iz16, Cx.n nz17, Cx.n nz18, Cx.i iz19, Cx.i iz20, Cx.i iz21, Cx.n nz22, Cx.i iz23, Cx.i iz24, Cx.f fz25])
 | .L26 iza0 iza1 nza2 iza3 fza4 nza5 iza6 iza7 fza8 iza9 iza10 iza11 nza12 fza13 nza14 nza15 fza16 iza17 nza18 nza19 iza20 iza21 iza22 nza23 iza24 iza25 fza26 => (24, [Cx.i iza9, Cx.i iza10, Cx.i iza11, Cx.n nza12, Cx.f fza13, Cx.n nza14, Cx.n nza15, Cx.f fza16, Cx.i iza17, Cx.n nza18, Cx.n nza19, Cx.i iza20, Cx.i iza21, Cx.i iza22, Cx.n nza23, Cx.i iza24, Cx.i iza25, Cx.f fza26])
 | .L27 izb0 izb1 nzb2 izb3 fzb4 nzb5 izb6 izb7 nzb8 fzb9 izb10 izb11 izb12 nzb13 fzb14 nzb15 nzb16 fzb17 izb18 nzb19 nzb20 izb21 izb22 izb23 nzb24 izb25 izb26 fzb27 => (25, [Cx.i izb10, Cx.i izb11, Cx.i izb12, Cx.n nzb13, Cx.f fzb14, Cx.n nzb15, Cx.n nzb16, Cx.f fzb17, Cx.i izb18, Cx.n nzb19, Cx.n nzb20, Cx.i izb21, Cx.i izb22, Cx.i izb23, Cx.n nzb24, Cx.i izb25, Cx.i izb26, Cx.f fzb27])
def Hv (x0 x1 x2 x3 x4 x5 x6 x7 : Int) (b8 : Bool) (x9 x10 x11 x12 : Int) : T (ca JJ) := bk JJ fw u57 s57 [V.agg [vi x0, vi x1, vi x2, vi x3, vi x4, vi x5, vi x6, vi x7, V.bool b8], V.agg [vi x9, vi x10, vi x11, vi x12]]
def sW (x0 x1 x2 x3 x4 x5 x6 x7 : Int) (b8 : Bool) (x9 x10 x11 x12 : Int) (cx : List Cx) : Lp JJ := lpT (atT (Hv x0 x1 x2 x3 x4 x5 x6 x7 b8 x9 x10 x11 x12) [false, true, true, true, true, false, true])
def FA (x0 x1 x2 x3 x4 x5 x6 x7 : Int) (b8 : Bool) (x9 x10 x11 x12 : Int) (cx : List Cx) : Lp JJ := lpT (atT (rdP fw u57 (0, []) (sW x0 x1 x2 x3 x4 x5 x6 x7 b8 x9 x10 x11 x12 []) (ge x0 x1 x2 x3 x4 x5 x6 x7 b8 x9 x10 x11 x12 (.L0 (0 : Int) (fun _ => [])))) [true])
def vF (x0 x1 x2 x3 x4 x5 x6 x7 : Int) (b8 : Bool) (x9 x10 x11 x12 : Int) (cx : List Cx) : Lp JJ := lpT (atT (rdP fw u57 (0, []) (sW x0 x1 x2 x3 x4 x5 x6 x7 b8 x9 x10 x11 x12 []) (ge x0 x1 x2 x3 x4 x5 x6 x7 b8 x9 x10 x11 x12 (.L0 (cxi cx 0) (cxf cx 1)))) [false, false])
def wu (x0 x1 x2 x3 x4 x5 x6 x7 : Int) (b8 : Bool) (x9 x10 x11 x12 : Int) (cx : List Cx) : Lp JJ := lpT (atT (rdP fw u57 (2, [.i (cxi cx 0), .f (cxf cx 1)]) (vF x0 x1 x2 x3 x4 x5 x6 x7 b8 x9 x10 x11 x12 [.i (cxi cx 0), .f (cxf cx 1)]) (ge x0 x1 x2 x3 x4 x5 x6 x7 b8 x9 x10 x11 x12 (.L2 (0 : Int) (fun _ => []) (cxi cx 0) (cxf cx 1)))) [true, true])
def vN (x0 x1 x2 x3 x4 x5 x6 x7 : Int) (b8 : Bool) (x9 x10 x11 x12 : Int) (cx : List Cx) : Lp JJ := lpT (atT (rdP fw u57 (2, [.i (0 : Int), .f (fun _ => [])]) (vF x0 x1 x2 x3 x4 x5 x6 x7 b8 x9 x10 x11 x12 [.i (0 : Int), .f (fun _ => [])]) (ge x0 x1 x2 x3 x4 x5 x6 x7 b8 x9 x10 x11 x12 (.L2 (cxi cx 0) (cxf cx 1) (0 : Int) (fun _ => [])))) [false, false])
def GU (x0 x1 x2 x3 x4 x5 x6 x7 : Int) (b8 : Bool) (x9 x10 x11 x12 : Int) (cx : List Cx) : Lp JJ := lpT (atT (rdP fw u57 (3, [.i (0 : Int), .f (fun _ => [])]) (wu x0 x1 x2 x3 x4 x5 x6 x7 b8 x9 x10 x11 x12 [.i (0 : Int), .f (fun _ => [])]) (ge x0 x1 x2 x3 x4 x5 x6 x7 b8 x9 x10 x11 x12 (.L3 (0 : Int) 0 0 (0 : Int) (0 : Int) (0 : Int) 0 (0 : Int) (0 : Int) (fun _ => []) (0 : Int) (fun _ => [])))) [false, true])
def FE (x0 x1 x2 x3 x4 x5 x6 x7 : Int) (b8 : Bool) (x9 x10 x11 x12 : Int) (cx : List Cx) : Lp JJ := lpT (atT (rdP fw u57 (4, [.i (cxi cx 0), .f (cxf cx 1)]) (vN x0 x1 x2 x3 x4 x5 x6 x7 b8 x9 x10 x11 x12 [.i (cxi cx 0), .f (cxf cx 1)]) (ge x0 x1 x2 x3 x4 x5 x6 x7 b8 x9 x10 x11 x12 (.L4 (0 : Int) (fun _ => []) 0 (fun _ => []) (cxi cx 0) (cxf cx 1)))) [true])
def sZ (x0 x1 x2 x3 x4 x5 x6 x7 : Int) (b8 : Bool) (x9 x10 x11 x12 : Int) (cx : List Cx) : Lp JJ := lpT (atT (rdP fw u57 (3, [.i (0 : Int), .f (fun _ => [])]) (wu x0 x1 x2 x3 x4 x5 x6 x7 b8 x9 x10 x11 x12 [.i (0 : Int), .f (fun _ => [])]) (ge x0 x1 x2 x3 x4 x5 x6 x7 b8 x9 x10 x11 x12 (.L3 (cxi cx 0) (cxn cx 1) (cxn cx 2) (cxi cx 3) (cxi cx 4) (cxi cx 5) (cxn cx 6) (cxi cx 7) (cxi cx 8) (cxf cx 9) (0 : Int) (fun _ => [])))) [false, false])
def yA (x0 x1 x2 x3 x4 x5 x6 x7 : Int) (b8 : Bool) (x9 x10 x11 x12 : Int) (cx : List Cx) : Lp JJ := lpT (atT (rdP fw u57 (4, [.i (cxi cx 0), .f (cxf cx 1)]) (vN x0 x1 x2 x3 x4 x5 x6 x7 b8 x9 x10 x11 x12 [.i (cxi cx 0), .f (cxf cx 1)]) (ge x0 x1 x2 x3 x4 x5 x6 x7 b8 x9 x10 x11 x12 (.L4 (0 : Int) (fun _ => []) 0 (fun _ => []) (cxi cx 0) (cxf cx 1)))) [false])
def CM (x0 x1 x2 x3 x4 x5 x6 x7 : Int) (b8 : Bool) (x9 x10 x11 x12 : Int) (cx : List Cx) : Lp JJ := lpT (atT (rdP fw u57 (12, [.i (cxi cx 0), .n (cxn cx 1), .n (cxn cx 2), .i (cxi cx 3), .i (cxi cx 4), .i (cxi cx 5), .n (cxn cx 6), .i (cxi cx 7), .i (cxi cx 8), .f (cxf cx 9)]) (sZ x0 x1 x2 x3 x4 x5 x6 x7 b8 x9 x10 x11 x12 [.i (cxi cx 0), .n (cxn cx 1), .n (cxn cx 2), .i (cxi cx 3), .i (cxi cx 4), .i (cxi cx 5), .n (cxn cx 6), .i (cxi cx 7), .i (cxi cx 8), .f (cxf cx 9)]) (ge x0 x1 x2 x3 x4 x5 x6 x7 b8 x9 x10 x11 x12 (.L12 (0 : Int) (0 : Int) 0 (fun _ => []) 0 (fun _ => []) (cxi cx 0) (cxn cx 1) (cxn cx 2) (cxi cx 3) (cxi cx 4) (cxi cx 5) (cxn cx 6) (cxi cx 7) (cxi cx 8) (cxf cx 9)))) [true])
def yj (x0 x1 x2 x3 x4 x5 x6 x7 : Int) (b8 : Bool) (x9 x10 x11 x12 : Int) (cx : List Cx) : Lp JJ := lpT (atT (rdP fw u57 (12, [.i (cxi cx 0), .n (cxn cx 1), .n (cxn cx 2), .i (cxi cx 3), .i (cxi cx 4), .i (cxi cx 5), .n (cxn cx 6), .i (cxi cx 7), .i (cxi cx 8), .f (cxf cx 9)]) (sZ x0 x1 x2 x3 x4 x5 x6 x7 b8 x9 x10 x11 x12 [.i (cxi cx 0), .n (cxn cx 1), .n (cxn cx 2), .i (cxi cx 3), .i (cxi cx 4), .i (cxi cx 5), .n (cxn cx 6), .i (cxi cx 7), .i (cxi cx 8), .f (cxf cx 9)]) (ge x0 x1 x2 x3 x4 x5 x6 x7 b8 x9 x10 x11 x12 (.L12 (0 : Int) (0 : Int) 0 (fun _ => []) 0 (fun _ => []) (cxi cx 0) (cxn cx 1) (cxn cx 2) (cxi cx 3) (cxi cx 4) (cxi cx 5) (cxn cx 6) (cxi cx 7) (cxi cx 8) (cxf cx 9)))) [false])
def xu (x0 x1 x2 x3 x4 x5 x6 x7 : Int) (b8 : Bool) (x9 x10 x11 x12 : Int) (cx : List Cx) : Lp JJ := lpT (atT (rdP fw u57 (13, [.i (cxi cx 6), .f (cxf cx 7)]) (yA x0 x1 x2 x3 x4 x5 x6 x7 b8 x9 x10 x11 x12 [.i (cxi cx 6), .f (cxf cx 7)]) (ge x0 x1 x2 x3 x4 x5 x6 x7 b8 x9 x10 x11 x12 (.L13 (cxi cx 0) (cxi cx 1) (cxf cx 2) (cxn cx 3) (cxn cx 4) (cxf cx 5) (cxi cx 6) (cxf cx 7)))) [false])
def C6 (x0 x1 x2 x3 x4 x5 x6 x7 : Int) (b8 : Bool) (x9 x10 x11 x12 : Int) (cx : List Cx) : Lp JJ := lpT (atT (rdP fw u57 (18, [.i (cxi cx 0), .i (cxi cx 1), .f (cxf cx 2), .n (cxn cx 3), .n (cxn cx 4), .f (cxf cx 5), .i (cxi cx 6), .f (cxf cx 7)]) (xu x0 x1 x2 x3 x4 x5 x6 x7 b8 x9 x10 x11 x12 [.i (cxi cx 0), .i (cxi cx 1), .f (cxf cx 2), .n (cxn cx 3), .n (cxn cx 4), .f (cxf cx 5), .i (cxi cx 6), .f (cxf cx 7)]) (ge x0 x1 x2 x3 x4 x5 x6 x7 b8 x9 x10 x11 x12 (.L18 (0 : Int) (fun _ => []) (cxn cx 3) (cxn cx 4) (fun _ => []) (cxi cx 0) (cxi cx 1) (cxf cx 2) (cxf cx 5) (cxi cx 6) (cxf cx 7)))) [true])
def yg (x0 x1 x2 x3 x4 x5 x6 x7 : Int) (b8 : Bool) (x9 x10 x11 x12 : Int) (cx : List Cx) : Lp JJ := lpT (atT (rdP fw u57 (15, [.i (cxi cx 8), .n (cxn cx 9), .n (cxn cx 10), .i (cxi cx 11), .i (cxi cx 12), .i (cxi cx 13), .n (cxn cx 14), .i (cxi cx 15), .i (cxi cx 16), .f (cxf cx 17)]) (yj x0 x1 x2 x3 x4 x5 x6 x7 b8 x9 x10 x11 x12 [.i (cxi cx 8), .n (cxn cx 9), .n (cxn cx 10), .i (cxi cx 11), .i (cxi cx 12), .i (cxi cx 13), .n (cxn cx 14), .i (cxi cx 15), .i (cxi cx 16), .f (cxf cx 17)]) (ge x0 x1 x2 x3 x4 x5 x6 x7 b8 x9 x10 x11 x12 (.L15 (cxi cx 0) (cxi cx 1) (cxi cx 2) (cxn cx 3) (cxf cx 4) (cxn cx 5) (cxn cx 6) (cxf cx 7) (cxi cx 8) (cxn cx 9) (cxn cx 10) (cxi cx 11) (cxi cx 12) (cxi cx 13) (cxn cx 14) (cxi cx 15) (cxi cx 16) (cxf cx 17)))) [false])
def DK (x0 x1 x2 x3 x4 x5 x6 x7 : Int) (b8 : Bool) (x9 x10 x11 x12 : Int) (cx : List Cx) : Lp JJ := lpT (atT (rdP fw u57 (24, [.i (cxi cx 0), .i (cxi cx 1), .i (cxi cx 2), .n (cxn cx 3), .f (cxf cx 4), .n (cxn cx 5), .n (cxn cx 6), .f (cxf cx 7), .i (cxi cx 8), .n (cxn cx 9), .n (cxn cx 10), .i (cxi cx 11), .i (cxi cx 12), .i (cxi cx 13), .n (cxn cx 14), .i (cxi cx 15), .i (cxi cx 16), .f (cxf cx 17)]) (yg x0 x1 x2 x3 x4 x5 x6 x7 b8 x9 x10 x11 x12 [.i (cxi cx 0), .i (cxi cx 1), .i (cxi cx 2), .n (cxn cx 3), .f (cxf cx 4), .n (cxn cx 5), .n (cxn cx 6), .f (cxf cx 7), .i (cxi cx 8), .n (cxn cx 9), .n (cxn cx 10), .i (cxi cx 11), .i (cxi cx 12), .i (cxi cx 13), .n (cxn cx 14), .i (cxi cx 15), .i (cxi cx 16), .f (cxf cx 17)]) (ge x0 x1 x2 x3 x4 x5 x6 x7 b8 x9 x10 x11 x12 (.L24 (0 : Int) 0 (0 : Int) (fun _ => []) (cxn cx 5) (cxn cx 6) (fun _ => []) (cxi cx 0) (cxi cx 1) (cxi cx 2) (cxn cx 3) (cxf cx 4) (cxf cx 7) (cxi cx 8) (cxn cx 9) (cxn cx 10) (cxi cx 11) (cxi cx 12) (cxi cx 13) (cxn cx 14) (cxi cx 15) (cxi cx 16) (cxf cx 17)))) [true])
def Lv (x0 x1 x2 x3 x4 x5 x6 x7 : Int) (b8 : Bool) (x9 x10 x11 x12 : Int) : JJ -> Lp JJ
 | (0, cx) => sW x0 x1 x2 x3 x4 x5 x6 x7 b8 x9 x10 x11 x12 cx
 | (1, cx) => FA x0 x1 x2 x3 x4 x5 x6 x7 b8 x9 x10 x11 x12 cx
 | (2, cx) => vF x0 x1 x2 x3 x4 x5 x6 x7 b8 x9 x10 x11 x12 cx
 | (3, cx) => wu x0 x1 x2 x3 x4 x5 x6 x7 b8 x9 x10 x11 x12 cx
 | (4, cx) => vN x0 x1 x2 x3 x4 x5 x6 x7 b8 x9 x10 x11 x12 cx
 | (5, cx) => GU x0 x1 x2 x3 x4 x5 x6 x7 b8 x9 x10 x11 x12 cx
 | (7, cx) => FE x0 x1 x2 x3 x4 x5 x6 x7 b8 x9 x10 x11 x12 cx
 | (12, cx) => sZ x0 x1 x2 x3 x4 x5 x6 x7 b8 x9 x10 x11 x12 cx
 | (13, cx) => yA x0 x1 x2 x3 x4 x5 x6 x7 b8 x9 x10 x11 x12 cx
 | (14, cx) => CM x0 x1 x2 x3 x4 x5 x6 x7 b8 x9 x10 x11 x12 cx
 | (15, cx) => yj x0 x1 x2 x3 x4 x5 x6 x7 b8 x9 x10 x11 x12 cx
 | (18, cx) => xu x0 x1 x2 x3 x4 x5 x6 x7 b8 x9 x10 x11 x12 cx
 | (20, cx) => C6 x0 x1 x2 x3 x4 x5 x6 x7 b8 x9 x10 x11 x12 cx
 | (24, cx) => yg x0 x1 x2 x3 x4 x5 x6 x7 b8 x9 x10 x11 x12 cx
 | (25, cx) => DK x0 x1 x2 x3 x4 x5 x6 x7 b8 x9 x10 x11 x12 cx
 | (_, cx) => sW x0 x1 x2 x3 x4 x5 x6 x7 b8 x9 x10 x11 x12 cx
def D57 (x0 x1 x2 x3 x4 x5 x6 x7 : Int) (b8 : Bool) (x9 x10 x11 x12 : Int) : LD JJ S57 := ⟨Li, Lv x0 x1 x2 x3 x4 x5 x6 x7 b8 x9 x10 x11 x12, ge x0 x1 x2 x3 x4 x5 x6 x7 b8 x9 x10 x11 x12⟩
def cL (x0 x1 x2 x3 x4 x5 x6 x7 : Int) (b8 : Bool) (x9 x10 x11 x12 : Int) : S57 -> RT S57
 | .L0 ia0 fa1 => .br (decide (ia0 < (↑8 : Int))) (.enter (iR 0 14 []) (S57.L1 (ia0) (ia0) (elV tp2 fa1)) [⟨13, tp2, 8, elV tp2 fa1, al rfl _ _⟩]) (.brf (.enter (iR 0 14 []) (S57.L2 (1) (elV tp2 fa1) (ia0) (fa1)) [⟨13, tp2, 8, elV tp2 fa1, al rfl _ _⟩]))
 | .L1 ib0 ib1 fb2 => .obi (.obi (.obj (decide (0 < ib0)) (decide (0 <= ib0 /\ ib0 < (↑8 : Int) /\ 8 <= 8)) (.obi (.obj (decide (0 < ib0)) (decide (ib0.toNat < 8)) (.obi (.obi (.obi (.obj (decide (0 < ib0)) (decide (0 <= i64.wrap (ib0 - 1) /\ i64.wrap (ib0 - 1) < (↑8 : Int) /\ 8 <= 8)) (.obi (.obj (decide (0 < ib0)) (decide ((i64.wrap (ib0 - 1)).toNat < 8)) (.br (decide (0 < ib0)) (.ob (decide (0 < ib0)) (.ob (decide (0 < ib0)) (.ob (decide (0 < ib0)) (.obc (.obt (.br (decide (ln (jv0 (fb2 ib0.toNat)) (jv1 (fb2 ib0.toNat)) (jv0 (fb2 (i64.wrap (ib0 - 1)).toNat)) (jv1 (fb2 (i64.wrap (ib0 - 1)).toNat)) < 0)) (.ob (decide (0 <= i64.wrap (ib0 - 1) /\ i64.wrap (ib0 - 1) < (↑8 : Int) /\ 8 <= 8)) (.ob (decide ((i64.wrap (ib0 - 1)).toNat < 8)) (.ob (decide (0 <= ib0 /\ ib0 < (↑8 : Int) /\ 8 <= 8)) (.ob (decide (ib0.toNat < 8)) (.ob (decide (0 <= ib0 /\ ib0 < (↑8 : Int) /\ 8 <= 8)) (.ob (decide (ib0.toNat < 8)) (.ob (decide (0 <= i64.wrap (ib0 - 1) /\ i64.wrap (ib0 - 1) < (↑8 : Int) /\ 8 <= 8)) (.ob (decide ((i64.wrap (ib0 - 1)).toNat < 8)) (.next (iR 0 14 []) (S57.L1 (i64.wrap (ib0 - 1)) (ib1) (fun i' => bif i'.beq (i64.wrap (ib0 - 1)).toNat then [vi (jv0 (fb2 ib0.toNat)), vi (jv1 (fb2 ib0.toNat))] else bif i'.beq ib0.toNat then [vi (jv0 (fb2 (i64.wrap (ib0 - 1)).toNat)), vi (jv1 (fb2 (i64.wrap (ib0 - 1)).toNat))] else elV tp2 fb2 i')) [⟨13, tp2, 8, fun i' => bif i'.beq (i64.wrap (ib0 - 1)).toNat then [vi (jv0 (fb2 ib0.toNat)), vi (jv1 (fb2 ib0.toNat))] else bif i'.beq ib0.toNat then [vi (jv0 (fb2 (i64.wrap (ib0 - 1)).toNat)), vi (jv1 (fb2 (i64.wrap (ib0 - 1)).toNat))] else elV tp2 fb2 i', fA rfl (fA rfl (al rfl _ _) rfl) rfl⟩]))))))))) (.next (iR 0 14 []) (S57.L0 (i64.wrap (ib1 + 1)) (elV tp2 fb2)) [⟨13, tp2, 8, elV tp2 fb2, al rfl _ _⟩]))))))) (.next (iR 0 14 []) (S57.L0 (i64.wrap (ib1 + 1)) (elV tp2 fb2)) [⟨13, tp2, 8, elV tp2 fb2, al rfl _ _⟩]))))))))))))
 | .L2 ic0 fc1 ic2 fc3 => .br (decide (ic0 < (↑8 : Int))) (.ob (decide (0 <= ic0 /\ ic0 < (↑8 : Int) /\ 8 <= 8)) (.ob (decide (ic0.toNat < 8)) (.ob (decide (0 <= i64.wrap (ic0 - 1) /\ i64.wrap (ic0 - 1) < (↑8 : Int) /\ 8 <= 8)) (.ob (decide ((i64.wrap (ic0 - 1)).toNat < 8)) (.br (jv0 (fc1 ic0.toNat) == jv0 (fc1 (i64.wrap (ic0 - 1)).toNat) && (jv1 (fc1 ic0.toNat) == jv1 (fc1 (i64.wrap (ic0 - 1)).toNat) && true)) (.ob (decide (0 <= ic0 /\ ic0 <= (↑8 : Int))) (.enter (iR 0 14 []) (S57.L3 (1) (ic0.toNat) (8 - ic0.toNat) (ic0) (jv0 (fc1 (i64.wrap (ic0 - 1)).toNat)) (jv1 (fc1 (i64.wrap (ic0 - 1)).toNat)) ((i64.wrap (ic0 - 1)).toNat) (i64.wrap (ic0 - 1)) (ic0) (elV tp2 fc1) (ic2) (fc3)) [⟨13, tp2, 8, elV tp2 fc1, al rfl _ _⟩])) (.next (iR 0 14 []) (S57.L2 (i64.wrap (ic0 + 1)) (elV tp2 fc1) (ic2) (fc3)) [⟨13, tp2, 8, elV tp2 fc1, al rfl _ _⟩])))))) (.brf (.enter (iR 0 15 [some none]) (S57.L4 (0) (elV tp2 fc1) (0) (fun i => []) (ic0) (fc1)) [⟨13, tp2, 8, elV tp2 fc1, al rfl _ _⟩]))
 | .L3 id0 nd1 nd2 id3 id4 id5 nd6 id7 id8 fd9 id10 fd11 => .br (decide (id0 < (↑nd2 : Int))) (.ob (decide (0 <= id0 /\ id0 < (↑nd2 : Int) /\ nd1 + nd2 <= 8)) (.ob (decide (nd1 + id0.toNat < 8)) (.ob (decide (0 <= i64.wrap (id0 - 1) /\ i64.wrap (id0 - 1) < (↑nd2 : Int) /\ nd1 + nd2 <= 8)) (.ob (decide (nd1 + (i64.wrap (id0 - 1)).toNat < 8)) (.br (!(jv0 (fd9 (nd1 + id0.toNat)) == jv0 (fd9 (nd1 + (i64.wrap (id0 - 1)).toNat)) && (jv1 (fd9 (nd1 + id0.toNat)) == jv1 (fd9 (nd1 + (i64.wrap (id0 - 1)).toNat)) && true))) (.ob (decide (0 <= id0 /\ id0 < (↑nd2 : Int) /\ nd1 + nd2 <= 8)) (.ob (decide (nd1 + id0.toNat < 8)) (.ob (decide (0 <= id8 /\ id8 < (↑8 : Int) /\ 8 <= 8)) (.ob (decide (id8.toNat < 8)) (.next (iR 0 14 []) (S57.L3 (i64.wrap (id0 + 1)) (nd1) (nd2) (id3) (id4) (id5) (nd6) (id7) (i64.wrap (id8 + 1)) (fun i' => bif i'.beq id8.toNat then [vi (jv0 (fd9 (nd1 + id0.toNat))), vi (jv1 (fd9 (nd1 + id0.toNat)))] else elV tp2 fd9 i') (id10) (fd11)) [⟨13, tp2, 8, fun i' => bif i'.beq id8.toNat then [vi (jv0 (fd9 (nd1 + id0.toNat))), vi (jv1 (fd9 (nd1 + id0.toNat)))] else elV tp2 fd9 i', fA rfl (al rfl _ _) rfl⟩]))))) (.next (iR 0 14 []) (S57.L3 (i64.wrap (id0 + 1)) (nd1) (nd2) (id3) (id4) (id5) (nd6) (id7) (id8) (elV tp2 fd9) (id10) (fd11)) [⟨13, tp2, 8, elV tp2 fd9, al rfl _ _⟩])))))) (.ob (decide (0 <= id8 /\ id8 <= (↑8 : Int))) (.ob (decide (0 < 8 - id8.toNat /\ id8.toNat + (8 - id8.toNat) <= 8)) (.ob (decide (0 <= id8 /\ id8 <= (↑8 : Int))) (.br (decide ((↑id8.toNat : Int) < 3)) (.enter [some (some 13), some (some 0)] (S57.L5 (0) ((↑id8.toNat : Int)) (id8.toNat) (decide (2 < (↑id8.toNat : Int))) (8) (fun i => bif id8.toNat.ble i && i.succ.ble (id8.toNat + (8 - id8.toNat)) then [vi 0, vi 0] else elV tp2 fd9 i)) [⟨0, tp2, 8, fun i => bif id8.toNat.ble i && i.succ.ble (id8.toNat + (8 - id8.toNat)) then [vi 0, vi 0] else elV tp2 fd9 i, EJ rfl (al rfl _ _) rfl⟩]) (.enter (iR 0 15 [some none]) (S57.L12 (0) ((↑id8.toNat : Int)) (id8.toNat) (fun i => bif id8.toNat.ble i && i.succ.ble (id8.toNat + (8 - id8.toNat)) then [vi 0, vi 0] else elV tp2 fd9 i) (0) (fun i => []) (id0) (nd1) (nd2) (id3) (id4) (id5) (nd6) (id7) (id8) (fd9)) [⟨13, tp2, 8, fun i => bif id8.toNat.ble i && i.succ.ble (id8.toNat + (8 - id8.toNat)) then [vi 0, vi 0] else elV tp2 fd9 i, EJ rfl (al rfl _ _) rfl⟩])))))
 | .L4 ie0 fe1 ne2 fe3 ie4 fe5 => .br (decide (ie0 < (↑8 : Int))) (.ob (decide (0 <= ie0 /\ ie0 < (↑8 : Int) /\ 8 <= 8)) (.ob (decide (ie0.toNat < 8)) (.enter (iR 0 15 [some (some 16), some (some 15)]) (S57.L7 (ie0) (elV tp2 fe1) (ne2) (jv0 (fe1 ie0.toNat)) (jv1 (fe1 ie0.toNat)) (ne2) (elV tp2 fe3) (ie4) (fe5)) [⟨13, tp2, 8, elV tp2 fe1, al rfl _ _⟩, ⟨16, tp2, ne2, elV tp2 fe3, al rfl _ _⟩]))) (.ob (decide (0 <= i64.wrap ((↑ne2 : Int) - 1) /\ i64.wrap ((↑ne2 : Int) - 1) <= (↑ne2 : Int))) (.enter (iR 0 16 []) (S57.L13 (i64.wrap ((↑8 : Int) - 1)) (0) (elV tp2 fe1) ((i64.wrap ((↑ne2 : Int) - 1)).toNat) (ne2) (elV tp2 fe3) (ie4) (fe5)) [⟨13, tp2, 8, elV tp2 fe1, al rfl _ _⟩, ⟨15, tp2, ne2, elV tp2 fe3, al rfl _ _⟩]))
 | .L5 if0 if1 nf2 bf3 nf4 ff5 => .br (decide (if0 < if1)) (.ob (decide (0 <= if0 /\ if0 < (↑nf2 : Int) /\ nf2 <= nf4)) (.ob (decide (if0.toNat < nf4)) (.ob (decide ((↑nf2 : Int) ≠ 0)) (.ob (decide (0 <= (i64.wrap (if0 + 1)).tmod (↑nf2 : Int) /\ (i64.wrap (if0 + 1)).tmod (↑nf2 : Int) < (↑nf2 : Int) /\ nf2 <= nf4)) (.ob (decide (((i64.wrap (if0 + 1)).tmod (↑nf2 : Int)).toNat < nf4)) (.obc (.obt (.br (eu (jv0 (ff5 if0.toNat)) (jv1 (ff5 if0.toNat)) (jv0 (ff5 ((i64.wrap (if0 + 1)).tmod (↑nf2 : Int)).toNat)) (jv1 (ff5 ((i64.wrap (if0 + 1)).tmod (↑nf2 : Int)).toNat)) x5 x6 x7) (.ret (V.kb true)) (.obi (.br (bf3) (.ob (bf3) (.ob (bf3) (.obc (.obt (.next [some (some 0), some (some 1)] (S57.L5 (i64.wrap (if0 + 1)) (if1) (nf2) (decide (0 < bR (jv0 (ff5 if0.toNat)) (jv1 (ff5 if0.toNat)) (jv0 (ff5 ((i64.wrap (if0 + 1)).tmod (↑nf2 : Int)).toNat)) (jv1 (ff5 ((i64.wrap (if0 + 1)).tmod (↑nf2 : Int)).toNat)) x5 x6)) (nf4) (elV tp2 ff5)) [⟨0, tp2, nf4, elV tp2 ff5, al rfl _ _⟩]))))) (.next [some (some 0), some (some 1)] (S57.L5 (i64.wrap (if0 + 1)) (if1) (nf2) (false) (nf4) (elV tp2 ff5)) [⟨0, tp2, nf4, elV tp2 ff5, al rfl _ _⟩]))))))))))) (.ret (V.bool bf3))
 | .L7 ih0 fh1 nh2 ih3 ih4 nh5 fh6 ih7 fh8 => .obi (.obi (.obi (.obi (.obj (decide (i64.wrap (0 + 1) < (↑nh2 : Int))) (decide (0 <= i64.wrap ((↑nh2 : Int) - 2) /\ i64.wrap ((↑nh2 : Int) - 2) < (↑nh2 : Int) /\ nh2 <= nh5)) (.obi (.obj (decide (i64.wrap (0 + 1) < (↑nh2 : Int))) (decide ((i64.wrap ((↑nh2 : Int) - 2)).toNat < nh5)) (.obi (.obi (.obi (.obi (.obj (decide (i64.wrap (0 + 1) < (↑nh2 : Int))) (decide (0 <= i64.wrap ((↑nh2 : Int) - 1) /\ i64.wrap ((↑nh2 : Int) - 1) < (↑nh2 : Int) /\ nh2 <= nh5)) (.obi (.obj (decide (i64.wrap (0 + 1) < (↑nh2 : Int))) (decide ((i64.wrap ((↑nh2 : Int) - 1)).toNat < nh5)) (.obi (.obi (.br (decide (i64.wrap (0 + 1) < (↑nh2 : Int))) (.ob (decide (i64.wrap (0 + 1) < (↑nh2 : Int))) (.ob (decide (i64.wrap (0 + 1) < (↑nh2 : Int))) (.obc (.obt (.br (decide (bR (jv0 (fh6 (i64.wrap ((↑nh2 : Int) - 2)).toNat)) (jv1 (fh6 (i64.wrap ((↑nh2 : Int) - 2)).toNat)) (jv0 (fh6 (i64.wrap ((↑nh2 : Int) - 1)).toNat)) (jv1 (fh6 (i64.wrap ((↑nh2 : Int) - 1)).toNat)) ih3 ih4 <= 0)) (.ob (decide (0 <= i64.wrap ((↑nh2 : Int) - 1) /\ i64.wrap ((↑nh2 : Int) - 1) <= (↑nh2 : Int))) (.next (iR 0 17 []) (S57.L7 (ih0) (elV tp2 fh1) ((i64.wrap ((↑nh2 : Int) - 1)).toNat) (ih3) (ih4) (nh5) (elV tp2 fh6) (ih7) (fh8)) [⟨13, tp2, 8, elV tp2 fh1, al rfl _ _⟩, ⟨16, tp2, nh5, elV tp2 fh6, al rfl _ _⟩])) (.obt (.ob (decide (nh2 <= nh5 /\ (nh2 + 1) * 16 <= 140737488355328) && !Nat.beq 16 0) (.next (iR 0 15 [some (some 18)]) (S57.L4 (i64.wrap (ih0 + 1)) (elV tp2 fh1) (nh2 + 1) (av nh2 (elV tp2 fh6) fun x => [vi ih3, vi ih4]) (ih7) (fh8)) [⟨13, tp2, 8, elV tp2 fh1, al rfl _ _⟩, ⟨15, tp2, nh2 + 1, av nh2 (elV tp2 fh6) fun x => [vi ih3, vi ih4], dX (al rfl _ _) (dh rfl _ rfl)⟩])))))))) (.obt (.ob (decide (nh2 <= nh5 /\ (nh2 + 1) * 16 <= 140737488355328) && !Nat.beq 16 0) (.next (iR 0 15 [some (some 18)]) (S57.L4 (i64.wrap (ih0 + 1)) (elV tp2 fh1) (nh2 + 1) (av nh2 (elV tp2 fh6) fun x => [vi ih3, vi ih4]) (ih7) (fh8)) [⟨13, tp2, 8, elV tp2 fh1, al rfl _ _⟩, ⟨15, tp2, nh2 + 1, av nh2 (elV tp2 fh6) fun x => [vi ih3, vi ih4], dX (al rfl _ _) (dh rfl _ rfl)⟩])))))))))))))))))))
 | .L12 im0 im1 nm2 fm3 nm4 fm5 im6 nm7 nm8 im9 im10 im11 nm12 im13 im14 fm15 => .br (decide (im0 < im1)) (.ob (decide (0 <= im0 /\ im0 < (↑nm2 : Int) /\ nm2 <= 8)) (.ob (decide (im0.toNat < 8)) (.enter (iR 0 15 [some (some 16), some (some 15)]) (S57.L14 (im0) (im1) (nm2) (elV tp2 fm3) (nm4) (jv0 (fm3 im0.toNat)) (jv1 (fm3 im0.toNat)) (nm4) (elV tp2 fm5) (im6) (nm7) (nm8) (im9) (im10) (im11) (nm12) (im13) (im14) (fm15)) [⟨13, tp2, 8, elV tp2 fm3, al rfl _ _⟩, ⟨16, tp2, nm4, elV tp2 fm5, al rfl _ _⟩]))) (.ob (decide (0 <= i64.wrap ((↑nm4 : Int) - 1) /\ i64.wrap ((↑nm4 : Int) - 1) <= (↑nm4 : Int))) (.enter (iR 0 16 []) (S57.L15 (i64.wrap ((↑im14.toNat : Int) - 1)) (0) ((↑im14.toNat : Int)) (im14.toNat) (elV tp2 fm3) ((i64.wrap ((↑nm4 : Int) - 1)).toNat) (nm4) (elV tp2 fm5) (im6) (nm7) (nm8) (im9) (im10) (im11) (nm12) (im13) (im14) (fm15)) [⟨13, tp2, 8, elV tp2 fm3, al rfl _ _⟩, ⟨15, tp2, nm4, elV tp2 fm5, al rfl _ _⟩]))
 | .L13 in0 in1 fn2 nn3 nn4 fn5 in6 fn7 => .br (decide (in1 < in0)) (.ob (decide (0 <= in0 /\ in0 < (↑8 : Int) /\ 8 <= 8)) (.ob (decide (in0.toNat < 8)) (.ob (decide (0 <= in1 /\ in1 < (↑8 : Int) /\ 8 <= 8)) (.ob (decide (in1.toNat < 8)) (.ob (decide (0 <= in1 /\ in1 < (↑8 : Int) /\ 8 <= 8)) (.ob (decide (in1.toNat < 8)) (.ob (decide (0 <= in0 /\ in0 < (↑8 : Int) /\ 8 <= 8)) (.ob (decide (in0.toNat < 8)) (.next (iR 0 16 []) (S57.L13 (i64.wrap (in0 - 1)) (i64.wrap (in1 + 1)) (fun i' => bif i'.beq in0.toNat then [vi (jv0 (fn2 in1.toNat)), vi (jv1 (fn2 in1.toNat))] else bif i'.beq in1.toNat then [vi (jv0 (fn2 in0.toNat)), vi (jv1 (fn2 in0.toNat))] else elV tp2 fn2 i') (nn3) (nn4) (elV tp2 fn5) (in6) (fn7)) [⟨13, tp2, 8, fun i' => bif i'.beq in0.toNat then [vi (jv0 (fn2 in1.toNat)), vi (jv1 (fn2 in1.toNat))] else bif i'.beq in1.toNat then [vi (jv0 (fn2 in0.toNat)), vi (jv1 (fn2 in0.toNat))] else elV tp2 fn2 i', fA rfl (fA rfl (al rfl _ _) rfl) rfl⟩, ⟨15, tp2, nn4, elV tp2 fn5, al rfl _ _⟩]))))))))) (.enter (iR 0 16 []) (S57.L18 ((↑nn3 : Int)) (elV tp2 fn2) (nn3) (nn4) (elV tp2 fn5) (in0) (in1) (fn2) (fn5) (in6) (fn7)) [⟨13, tp2, 8, elV tp2 fn2, al rfl _ _⟩, ⟨15, tp2, nn4, elV tp2 fn5, al rfl _ _⟩])
 | .L14 io0 io1 no2 fo3 no4 io5 io6 no7 fo8 io9 no10 no11 io12 io13 io14 no15 io16 io17 fo18 => .obi (.obi (.obi (.obi (.obj (decide (i64.wrap (0 + 1) < (↑no4 : Int))) (decide (0 <= i64.wrap ((↑no4 : Int) - 2) /\ i64.wrap ((↑no4 : Int) - 2) < (↑no4 : Int) /\ no4 <= no7)) (.obi (.obj (decide (i64.wrap (0 + 1) < (↑no4 : Int))) (decide ((i64.wrap ((↑no4 : Int) - 2)).toNat < no7)) (.obi (.obi (.obi (.obi (.obj (decide (i64.wrap (0 + 1) < (↑no4 : Int))) (decide (0 <= i64.wrap ((↑no4 : Int) - 1) /\ i64.wrap ((↑no4 : Int) - 1) < (↑no4 : Int) /\ no4 <= no7)) (.obi (.obj (decide (i64.wrap (0 + 1) < (↑no4 : Int))) (decide ((i64.wrap ((↑no4 : Int) - 1)).toNat < no7)) (.obi (.obi (.br (decide (i64.wrap (0 + 1) < (↑no4 : Int))) (.ob (decide (i64.wrap (0 + 1) < (↑no4 : Int))) (.ob (decide (i64.wrap (0 + 1) < (↑no4 : Int))) (.obc (.obt (.br (decide (bR (jv0 (fo8 (i64.wrap ((↑no4 : Int) - 2)).toNat)) (jv1 (fo8 (i64.wrap ((↑no4 : Int) - 2)).toNat)) (jv0 (fo8 (i64.wrap ((↑no4 : Int) - 1)).toNat)) (jv1 (fo8 (i64.wrap ((↑no4 : Int) - 1)).toNat)) io5 io6 <= 0)) (.ob (decide (0 <= i64.wrap ((↑no4 : Int) - 1) /\ i64.wrap ((↑no4 : Int) - 1) <= (↑no4 : Int))) (.next (iR 0 17 []) (S57.L14 (io0) (io1) (no2) (elV tp2 fo3) ((i64.wrap ((↑no4 : Int) - 1)).toNat) (io5) (io6) (no7) (elV tp2 fo8) (io9) (no10) (no11) (io12) (io13) (io14) (no15) (io16) (io17) (fo18)) [⟨13, tp2, 8, elV tp2 fo3, al rfl _ _⟩, ⟨16, tp2, no7, elV tp2 fo8, al rfl _ _⟩])) (.obt (.ob (decide (no4 <= no7 /\ (no4 + 1) * 16 <= 140737488355328) && !Nat.beq 16 0) (.next (iR 0 15 [some (some 18)]) (S57.L12 (i64.wrap (io0 + 1)) (io1) (no2) (elV tp2 fo3) (no4 + 1) (av no4 (elV tp2 fo8) fun x => [vi io5, vi io6]) (io9) (no10) (no11) (io12) (io13) (io14) (no15) (io16) (io17) (fo18)) [⟨13, tp2, 8, elV tp2 fo3, al rfl _ _⟩, ⟨15, tp2, no4 + 1, av no4 (elV tp2 fo8) fun x => [vi io5, vi io6], dX (al rfl _ _) (dh rfl _ rfl)⟩])))))))) (.obt (.ob (decide (no4 <= no7 /\ (no4 + 1) * 16 <= 140737488355328) && !Nat.beq 16 0) (.next (iR 0 15 [some (some 18)]) (S57.L12 (i64.wrap (io0 + 1)) (io1) (no2) (elV tp2 fo3) (no4 + 1) (av no4 (elV tp2 fo8) fun x => [vi io5, vi io6]) (io9) (no10) (no11) (io12) (io13) (io14) (no15) (io16) (io17) (fo18)) [⟨13, tp2, 8, elV tp2 fo3, al rfl _ _⟩, ⟨15, tp2, no4 + 1, av no4 (elV tp2 fo8) fun x => [vi io5, vi io6], dX (al rfl _ _) (dh rfl _ rfl)⟩])))))))))))))))))))
 | .L15 ip0 ip1 ip2 np3 fp4 np5 np6 fp7 ip8 np9 np10 ip11 ip12 ip13 np14 ip15 ip16 fp17 => .br (decide (ip1 < ip0)) (.ob (decide (0 <= ip0 /\ ip0 < (↑np3 : Int) /\ np3 <= 8)) (.ob (decide (ip0.toNat < 8)) (.ob (decide (0 <= ip1 /\ ip1 < (↑np3 : Int) /\ np3 <= 8)) (.ob (decide (ip1.toNat < 8)) (.ob (decide (0 <= ip1 /\ ip1 < (↑np3 : Int) /\ np3 <= 8)) (.ob (decide (ip1.toNat < 8)) (.ob (decide (0 <= ip0 /\ ip0 < (↑np3 : Int) /\ np3 <= 8)) (.ob (decide (ip0.toNat < 8)) (.next (iR 0 16 []) (S57.L15 (i64.wrap (ip0 - 1)) (i64.wrap (ip1 + 1)) (ip2) (np3) (fun i' => bif i'.beq ip0.toNat then [vi (jv0 (fp4 ip1.toNat)), vi (jv1 (fp4 ip1.toNat))] else bif i'.beq ip1.toNat then [vi (jv0 (fp4 ip0.toNat)), vi (jv1 (fp4 ip0.toNat))] else elV tp2 fp4 i') (np5) (np6) (elV tp2 fp7) (ip8) (np9) (np10) (ip11) (ip12) (ip13) (np14) (ip15) (ip16) (fp17)) [⟨13, tp2, 8, fun i' => bif i'.beq ip0.toNat then [vi (jv0 (fp4 ip1.toNat)), vi (jv1 (fp4 ip1.toNat))] else bif i'.beq ip1.toNat then [vi (jv0 (fp4 ip0.toNat)), vi (jv1 (fp4 ip0.toNat))] else elV tp2 fp4 i', fA rfl (fA rfl (al rfl _ _) rfl) rfl⟩, ⟨15, tp2, np6, elV tp2 fp7, al rfl _ _⟩]))))))))) (.enter (iR 0 16 []) (S57.L24 ((↑ip16.toNat : Int)) (ip16.toNat) ((↑np5 : Int)) (elV tp2 fp4) (np5) (np6) (elV tp2 fp7) (ip0) (ip1) (ip2) (np3) (fp4) (fp7) (ip8) (np9) (np10) (ip11) (ip12) (ip13) (np14) (ip15) (ip16) (fp17)) [⟨13, tp2, 8, elV tp2 fp4, al rfl _ _⟩, ⟨15, tp2, np6, elV tp2 fp7, al rfl _ _⟩])
 | .L18 is0 fs1 ns2 ns3 fs4 is5 is6 fs7 fs8 is9 fs10 => .brt (.obt (.obt (.enter (iR 0 17 []) (S57.L20 (is0) (elV tp2 fs1) (ns2) (ns3) (elV tp2 fs4) (jv0 (fs1 0)) (jv1 (fs1 0)) (is5) (is6) (fs7) (ns2) (fs8) (is9) (fs10)) [⟨13, tp2, 8, elV tp2 fs1, al rfl _ _⟩, ⟨15, tp2, ns3, elV tp2 fs4, al rfl _ _⟩])))
 | .L20 iu0 fu1 nu2 nu3 fu4 iu5 iu6 iu7 iu8 fu9 nu10 fu11 iu12 fu13 => .obi (.obi (.obi (.obi (.obj (decide (i64.wrap (iu0 + 1) < (↑nu2 : Int))) (decide (0 <= i64.wrap ((↑nu2 : Int) - 2) /\ i64.wrap ((↑nu2 : Int) - 2) < (↑nu2 : Int) /\ nu2 <= nu3)) (.obi (.obj (decide (i64.wrap (iu0 + 1) < (↑nu2 : Int))) (decide ((i64.wrap ((↑nu2 : Int) - 2)).toNat < nu3)) (.obi (.obi (.obi (.obi (.obj (decide (i64.wrap (iu0 + 1) < (↑nu2 : Int))) (decide (0 <= i64.wrap ((↑nu2 : Int) - 1) /\ i64.wrap ((↑nu2 : Int) - 1) < (↑nu2 : Int) /\ nu2 <= nu3)) (.obi (.obj (decide (i64.wrap (iu0 + 1) < (↑nu2 : Int))) (decide ((i64.wrap ((↑nu2 : Int) - 1)).toNat < nu3)) (.obi (.obi (.br (decide (i64.wrap (iu0 + 1) < (↑nu2 : Int))) (.ob (decide (i64.wrap (iu0 + 1) < (↑nu2 : Int))) (.ob (decide (i64.wrap (iu0 + 1) < (↑nu2 : Int))) (.obc (.obt (.br (decide (bR (jv0 (fu4 (i64.wrap ((↑nu2 : Int) - 2)).toNat)) (jv1 (fu4 (i64.wrap ((↑nu2 : Int) - 2)).toNat)) (jv0 (fu4 (i64.wrap ((↑nu2 : Int) - 1)).toNat)) (jv1 (fu4 (i64.wrap ((↑nu2 : Int) - 1)).toNat)) iu5 iu6 <= 0)) (.ob (decide (0 <= i64.wrap ((↑nu2 : Int) - 1) /\ i64.wrap ((↑nu2 : Int) - 1) <= (↑nu2 : Int))) (.next (iR 0 17 []) (S57.L20 (iu0) (elV tp2 fu1) ((i64.wrap ((↑nu2 : Int) - 1)).toNat) (nu3) (elV tp2 fu4) (iu5) (iu6) (iu7) (iu8) (fu9) (nu10) (fu11) (iu12) (fu13)) [⟨13, tp2, 8, elV tp2 fu1, al rfl _ _⟩, ⟨15, tp2, nu3, elV tp2 fu4, al rfl _ _⟩])) (.obt (.ob (decide (nu2 <= nu3 /\ (nu2 + 1) * 16 <= 140737488355328) && !Nat.beq 16 0) (.next (iR 0 17 [some (some 18)]) (S57.L22 (i64.wrap (0 + 1)) (iu0) (elV tp2 fu1) (nu2 + 1) (iu5) (iu6) (av nu2 (elV tp2 fu4) fun x => [vi iu5, vi iu6]) (iu7) (iu8) (fu9) (nu10) (nu3) (fu11) (iu12) (fu13)) [⟨13, tp2, 8, elV tp2 fu1, al rfl _ _⟩, ⟨17, tp2, nu2 + 1, av nu2 (elV tp2 fu4) fun x => [vi iu5, vi iu6], dX (al rfl _ _) (dh rfl _ rfl)⟩])))))))) (.obt (.ob (decide (nu2 <= nu3 /\ (nu2 + 1) * 16 <= 140737488355328) && !Nat.beq 16 0) (.next (iR 0 17 [some (some 18)]) (S57.L22 (i64.wrap (0 + 1)) (iu0) (elV tp2 fu1) (nu2 + 1) (iu5) (iu6) (av nu2 (elV tp2 fu4) fun x => [vi iu5, vi iu6]) (iu7) (iu8) (fu9) (nu10) (nu3) (fu11) (iu12) (fu13)) [⟨13, tp2, 8, elV tp2 fu1, al rfl _ _⟩, ⟨17, tp2, nu2 + 1, av nu2 (elV tp2 fu4) fun x => [vi iu5, vi iu6], dX (al rfl _ _) (dh rfl _ rfl)⟩])))))))))))))))))))
 | .L22 iw0 iw1 fw2 nw3 iw4 iw5 fw6 iw7 iw8 fw9 nw10 nw11 fw12 iw13 fw14 => .br (decide (iw0 < (↑8 : Int))) (.ob (decide (0 <= iw0 /\ iw0 < (↑8 : Int) /\ 8 <= 8)) (.ob (decide (iw0.toNat < 8)) (.enter (iR 0 16 [some (some 18), some (some 17)]) (S57.L23 (iw0) (iw1) (elV tp2 fw2) (nw3) (jv0 (fw2 iw0.toNat)) (jv1 (fw2 iw0.toNat)) (nw3) (elV tp2 fw6) (iw7) (iw8) (fw9) (nw10) (nw11) (fw12) (iw13) (fw14)) [⟨13, tp2, 8, elV tp2 fw2, al rfl _ _⟩, ⟨17, tp2, nw3, elV tp2 fw6, al rfl _ _⟩]))) (.ob (decide (0 <= i64.wrap ((↑nw3 : Int) - 1) /\ i64.wrap ((↑nw3 : Int) - 1) <= (↑nw3 : Int))) (.enter [some (some 17), some (some 0)] (S57.L5 (0) ((↑(i64.wrap ((↑nw3 : Int) - 1)).toNat : Int)) ((i64.wrap ((↑nw3 : Int) - 1)).toNat) (decide (2 < (↑(i64.wrap ((↑nw3 : Int) - 1)).toNat : Int))) (nw3) (elV tp2 fw6)) [⟨0, tp2, nw3, elV tp2 fw6, al rfl _ _⟩]))
 | .L23 ix0 ix1 fx2 nx3 ix4 ix5 nx6 fx7 ix8 ix9 fx10 nx11 nx12 fx13 ix14 fx15 => .obi (.obi (.obi (.obi (.obj (decide (i64.wrap (ix1 + 1) < (↑nx3 : Int))) (decide (0 <= i64.wrap ((↑nx3 : Int) - 2) /\ i64.wrap ((↑nx3 : Int) - 2) < (↑nx3 : Int) /\ nx3 <= nx6)) (.obi (.obj (decide (i64.wrap (ix1 + 1) < (↑nx3 : Int))) (decide ((i64.wrap ((↑nx3 : Int) - 2)).toNat < nx6)) (.obi (.obi (.obi (.obi (.obj (decide (i64.wrap (ix1 + 1) < (↑nx3 : Int))) (decide (0 <= i64.wrap ((↑nx3 : Int) - 1) /\ i64.wrap ((↑nx3 : Int) - 1) < (↑nx3 : Int) /\ nx3 <= nx6)) (.obi (.obj (decide (i64.wrap (ix1 + 1) < (↑nx3 : Int))) (decide ((i64.wrap ((↑nx3 : Int) - 1)).toNat < nx6)) (.obi (.obi (.br (decide (i64.wrap (ix1 + 1) < (↑nx3 : Int))) (.ob (decide (i64.wrap (ix1 + 1) < (↑nx3 : Int))) (.ob (decide (i64.wrap (ix1 + 1) < (↑nx3 : Int))) (.obc (.obt (.br (decide (bR (jv0 (fx7 (i64.wrap ((↑nx3 : Int) - 2)).toNat)) (jv1 (fx7 (i64.wrap ((↑nx3 : Int) - 2)).toNat)) (jv0 (fx7 (i64.wrap ((↑nx3 : Int) - 1)).toNat)) (jv1 (fx7 (i64.wrap ((↑nx3 : Int) - 1)).toNat)) ix4 ix5 <= 0)) (.ob (decide (0 <= i64.wrap ((↑nx3 : Int) - 1) /\ i64.wrap ((↑nx3 : Int) - 1) <= (↑nx3 : Int))) (.next (iR 0 18 []) (S57.L23 (ix0) (ix1) (elV tp2 fx2) ((i64.wrap ((↑nx3 : Int) - 1)).toNat) (ix4) (ix5) (nx6) (elV tp2 fx7) (ix8) (ix9) (fx10) (nx11) (nx12) (fx13) (ix14) (fx15)) [⟨13, tp2, 8, elV tp2 fx2, al rfl _ _⟩, ⟨17, tp2, nx6, elV tp2 fx7, al rfl _ _⟩])) (.obt (.ob (decide (nx3 <= nx6 /\ (nx3 + 1) * 16 <= 140737488355328) && !Nat.beq 16 0) (.next (iR 0 17 [some (some 19)]) (S57.L22 (i64.wrap (ix0 + 1)) (ix1) (elV tp2 fx2) (nx3 + 1) (ix4) (ix5) (av nx3 (elV tp2 fx7) fun x => [vi ix4, vi ix5]) (ix8) (ix9) (fx10) (nx11) (nx12) (fx13) (ix14) (fx15)) [⟨13, tp2, 8, elV tp2 fx2, al rfl _ _⟩, ⟨17, tp2, nx3 + 1, av nx3 (elV tp2 fx7) fun x => [vi ix4, vi ix5], dX (al rfl _ _) (dh rfl _ rfl)⟩])))))))) (.obt (.ob (decide (nx3 <= nx6 /\ (nx3 + 1) * 16 <= 140737488355328) && !Nat.beq 16 0) (.next (iR 0 17 [some (some 19)]) (S57.L22 (i64.wrap (ix0 + 1)) (ix1) (elV tp2 fx2) (nx3 + 1) (ix4) (ix5) (av nx3 (elV tp2 fx7) fun x => [vi ix4, vi ix5]) (ix8) (ix9) (fx10) (nx11) (nx12) (fx13) (ix14) (fx15)) [⟨13, tp2, 8, elV tp2 fx2, al rfl _ _⟩, ⟨17, tp2, nx3 + 1, av nx3 (elV tp2 fx7) fun x => [vi ix4, vi ix5], dX (al rfl _ _) (dh rfl _ rfl)⟩])))))))))))))))))))
 | .L24 iy0 ny1 iy2 fy3 ny4 ny5 fy6 iy7 iy8 iy9 ny10 fy11 fy12 iy13 ny14 ny15 iy16 iy17 iy18 ny19 iy20 iy21 fy22 => .br (decide (0 < iy0)) (.ob (decide ((0 : Int) <= 0 /\ 0 < (↑ny1 : Int) /\ ny1 <= 8)) (.obt (.enter (iR 0 17 []) (S57.L25 (iy0) (ny1) (iy2) (elV tp2 fy3) (ny4) (ny5) (elV tp2 fy6) (jv0 (fy3 0)) (jv1 (fy3 0)) (iy7) (iy8) (iy9) (ny10) (fy11) (ny4) (fy12) (iy13) (ny14) (ny15) (iy16) (iy17) (iy18) (ny19) (iy20) (iy21) (fy22)) [⟨13, tp2, 8, elV tp2 fy3, al rfl _ _⟩, ⟨15, tp2, ny5, elV tp2 fy6, al rfl _ _⟩]))) (.ob (decide (0 <= i64.wrap ((↑ny4 : Int) - 1) /\ i64.wrap ((↑ny4 : Int) - 1) <= (↑ny4 : Int))) (.enter [some (some 15), some (some 0)] (S57.L5 (0) ((↑(i64.wrap ((↑ny4 : Int) - 1)).toNat : Int)) ((i64.wrap ((↑ny4 : Int) - 1)).toNat) (decide (2 < (↑(i64.wrap ((↑ny4 : Int) - 1)).toNat : Int))) (ny5) (elV tp2 fy6)) [⟨0, tp2, ny5, elV tp2 fy6, al rfl _ _⟩]))
 | .L25 iz0 nz1 iz2 fz3 nz4 nz5 fz6 iz7 iz8 iz9 iz10 iz11 nz12 fz13 nz14 fz15 iz16 nz17 nz18 iz19 iz20 iz21 nz22 iz23 iz24 fz25 => .obi (.obi (.obi (.obi (.obj (decide (i64.wrap (iz2 + 1) < (↑nz4 : Int))) (decide (0 <= i64.wrap ((↑nz4 : Int) - 2) /\ i64.wrap ((↑nz4 : Int) - 2) < (↑nz4 : Int) /\ nz4 <= nz5)) (.obi (.obj (decide (i64.wrap (iz2 + 1) < (↑nz4 : Int))) (decide ((i64.wrap ((↑nz4 : Int) - 2)).toNat < nz5)) (.obi (.obi (.obi (.obi (.obj (decide (i64.wrap (iz2 + 1) < (↑nz4 : Int))) (decide (0 <= i64.wrap ((↑nz4 : Int) - 1) /\ i64.wrap ((↑nz4 : Int) - 1) < (↑nz4 : Int) /\ nz4 <= nz5)) (.obi (.obj (decide (i64.wrap (iz2 + 1) < (↑nz4 : Int))) (decide ((i64.wrap ((↑nz4 : Int) - 1)).toNat < nz5)) (.obi (.obi (.br (decide (i64.wrap (iz2 + 1) < (↑nz4 : Int))) (.ob (decide (i64.wrap (iz2 + 1) < (↑nz4 : Int))) (.ob (decide (i64.wrap (iz2 + 1) < (↑nz4 : Int))) (.obc (.obt (.br (decide (bR (jv0 (fz6 (i64.wrap ((↑nz4 : Int) - 2)).toNat)) (jv1 (fz6 (i64.wrap ((↑nz4 : Int) - 2)).toNat)) (jv0 (fz6 (i64.wrap ((↑nz4 : Int) - 1)).toNat)) (jv1 (fz6 (i64.wrap ((↑nz4 : Int) - 1)).toNat)) iz7 iz8 <= 0)) (.ob (decide (0 <= i64.wrap ((↑nz4 : Int) - 1) /\ i64.wrap ((↑nz4 : Int) - 1) <= (↑nz4 : Int))) (.next (iR 0 17 []) (S57.L25 (iz0) (nz1) (iz2) (elV tp2 fz3) ((i64.wrap ((↑nz4 : Int) - 1)).toNat) (nz5) (elV tp2 fz6) (iz7) (iz8) (iz9) (iz10) (iz11) (nz12) (fz13) (nz14) (fz15) (iz16) (nz17) (nz18) (iz19) (iz20) (iz21) (nz22) (iz23) (iz24) (fz25)) [⟨13, tp2, 8, elV tp2 fz3, al rfl _ _⟩, ⟨15, tp2, nz5, elV tp2 fz6, al rfl _ _⟩])) (.obt (.ob (decide (nz4 <= nz5 /\ (nz4 + 1) * 16 <= 140737488355328) && !Nat.beq 16 0) (.next (iR 0 17 [some (some 18)]) (S57.L26 (i64.wrap (0 + 1)) (iz0) (nz1) (iz2) (elV tp2 fz3) (nz4 + 1) (iz7) (iz8) (av nz4 (elV tp2 fz6) fun x => [vi iz7, vi iz8]) (iz9) (iz10) (iz11) (nz12) (fz13) (nz14) (nz5) (fz15) (iz16) (nz17) (nz18) (iz19) (iz20) (iz21) (nz22) (iz23) (iz24) (fz25)) [⟨13, tp2, 8, elV tp2 fz3, al rfl _ _⟩, ⟨17, tp2, nz4 + 1, av nz4 (elV tp2 fz6) fun x => [vi iz7, vi iz8], dX (al rfl _ _) (dh rfl _ rfl)⟩])))))))) (.obt (.ob (decide (nz4 <= nz5 /\ (nz4 + 1) * 16 <= 140737488355328) && !Nat.beq 16 0) (.next (iR 0 17 [some (some 18)]) (S57.L26 (i64.wrap (0 + 1)) (iz0) (nz1) (iz2) (elV tp2 fz3) (nz4 + 1) (iz7) (iz8) (av nz4 (elV tp2 fz6) fun x => [vi iz7, vi iz8]) (iz9) (iz10) (iz11) (nz12) (fz13) (nz14) (nz5) (fz15) (iz16) (nz17) (nz18) (iz19) (iz20) (iz21) (nz22) (iz23) (iz24) (fz25)) [⟨13, tp2, 8, elV tp2 fz3, al rfl _ _⟩, ⟨17, tp2, nz4 + 1, av nz4 (elV tp2 fz6) fun x => [vi iz7, vi iz8], dX (al rfl _ _) (dh rfl _ rfl)⟩])))))))))))))))))))
 | .L26 iza0 iza1 nza2 iza3 fza4 nza5 iza6 iza7 fza8 iza9 iza10 iza11 nza12 fza13 nza14 nza15 fza16 iza17 nza18 nza19 iza20 iza21 iza22 nza23 iza24 iza25 fza26 => .br (decide (iza0 < iza1)) (.ob (decide (0 <= iza0 /\ iza0 < (↑nza2 : Int) /\ nza2 <= 8)) (.ob (decide (iza0.toNat < 8)) (.enter (iR 0 16 [some (some 18), some (some 17)]) (S57.L27 (iza0) (iza1) (nza2) (iza3) (elV tp2 fza4) (nza5) (jv0 (fza4 iza0.toNat)) (jv1 (fza4 iza0.toNat)) (nza5) (elV tp2 fza8) (iza9) (iza10) (iza11) (nza12) (fza13) (nza14) (nza15) (fza16) (iza17) (nza18) (nza19) (iza20) (iza21) (iza22) (nza23) (iza24) (iza25) (fza26)) [⟨13, tp2, 8, elV tp2 fza4, al rfl _ _⟩, ⟨17, tp2, nza5, elV tp2 fza8, al rfl _ _⟩]))) (.ob (decide (0 <= i64.wrap ((↑nza5 : Int) - 1) /\ i64.wrap ((↑nza5 : Int) - 1) <= (↑nza5 : Int))) (.enter [some (some 17), some (some 0)] (S57.L5 (0) ((↑(i64.wrap ((↑nza5 : Int) - 1)).toNat : Int)) ((i64.wrap ((↑nza5 : Int) - 1)).toNat) (decide (2 < (↑(i64.wrap ((↑nza5 : Int) - 1)).toNat : Int))) (nza5) (elV tp2 fza8)) [⟨0, tp2, nza5, elV tp2 fza8, al rfl _ _⟩]))
 | .L27 izb0 izb1 nzb2 izb3 fzb4 nzb5 izb6 izb7 nzb8 fzb9 izb10 izb11 izb12 nzb13 fzb14 nzb15 nzb16 fzb17 izb18 nzb19 nzb20 izb21 izb22 izb23 nzb24 izb25 izb26 fzb27 => .obi (.obi (.obi (.obi (.obj (decide (i64.wrap (izb3 + 1) < (↑nzb5 : Int))) (decide (0 <= i64.wrap ((↑nzb5 : Int) - 2) /\ i64.wrap ((↑nzb5 : Int) - 2) < (↑nzb5 : Int) /\ nzb5 <= nzb8)) (.obi (.obj (decide (i64.wrap (izb3 + 1) < (↑nzb5 : Int))) (decide ((i64.wrap ((↑nzb5 : Int) - 2)).toNat < nzb8)) (.obi (.obi (.obi (.obi (.obj (decide (i64.wrap (izb3 + 1) < (↑nzb5 : Int))) (decide (0 <= i64.wrap ((↑nzb5 : Int) - 1) /\ i64.wrap ((↑nzb5 : Int) - 1) < (↑nzb5 : Int) /\ nzb5 <= nzb8)) (.obi (.obj (decide (i64.wrap (izb3 + 1) < (↑nzb5 : Int))) (decide ((i64.wrap ((↑nzb5 : Int) - 1)).toNat < nzb8)) (.obi (.obi (.br (decide (i64.wrap (izb3 + 1) < (↑nzb5 : Int))) (.ob (decide (i64.wrap (izb3 + 1) < (↑nzb5 : Int))) (.ob (decide (i64.wrap (izb3 + 1) < (↑nzb5 : Int))) (.obc (.obt (.br (decide (bR (jv0 (fzb9 (i64.wrap ((↑nzb5 : Int) - 2)).toNat)) (jv1 (fzb9 (i64.wrap ((↑nzb5 : Int) - 2)).toNat)) (jv0 (fzb9 (i64.wrap ((↑nzb5 : Int) - 1)).toNat)) (jv1 (fzb9 (i64.wrap ((↑nzb5 : Int) - 1)).toNat)) izb6 izb7 <= 0)) (.ob (decide (0 <= i64.wrap ((↑nzb5 : Int) - 1) /\ i64.wrap ((↑nzb5 : Int) - 1) <= (↑nzb5 : Int))) (.next (iR 0 18 []) (S57.L27 (izb0) (izb1) (nzb2) (izb3) (elV tp2 fzb4) ((i64.wrap ((↑nzb5 : Int) - 1)).toNat) (izb6) (izb7) (nzb8) (elV tp2 fzb9) (izb10) (izb11) (izb12) (nzb13) (fzb14) (nzb15) (nzb16) (fzb17) (izb18) (nzb19) (nzb20) (izb21) (izb22) (izb23) (nzb24) (izb25) (izb26) (fzb27)) [⟨13, tp2, 8, elV tp2 fzb4, al rfl _ _⟩, ⟨17, tp2, nzb8, elV tp2 fzb9, al rfl _ _⟩])) (.obt (.ob (decide (nzb5 <= nzb8 /\ (nzb5 + 1) * 16 <= 140737488355328) && !Nat.beq 16 0) (.next (iR 0 17 [some (some 19)]) (S57.L26 (i64.wrap (izb0 + 1)) (izb1) (nzb2) (izb3) (elV tp2 fzb4) (nzb5 + 1) (izb6) (izb7) (av nzb5 (elV tp2 fzb9) fun x => [vi izb6, vi izb7]) (izb10) (izb11) (izb12) (nzb13) (fzb14) (nzb15) (nzb16) (fzb17) (izb18) (nzb19) (nzb20) (izb21) (izb22) (izb23) (nzb24) (izb25) (izb26) (fzb27)) [⟨13, tp2, 8, elV tp2 fzb4, al rfl _ _⟩, ⟨17, tp2, nzb5 + 1, av nzb5 (elV tp2 fzb9) fun x => [vi izb6, vi izb7], dX (al rfl _ _) (dh rfl _ rfl)⟩])))))))) (.obt (.ob (decide (nzb5 <= nzb8 /\ (nzb5 + 1) * 16 <= 140737488355328) && !Nat.beq 16 0) (.next (iR 0 17 [some (some 19)]) (S57.L26 (i64.wrap (izb0 + 1)) (izb1) (nzb2) (izb3) (elV tp2 fzb4) (nzb5 + 1) (izb6) (izb7) (av nzb5 (elV tp2 fzb9) fun x => [vi izb6, vi izb7]) (izb10) (izb11) (izb12) (nzb13) (fzb14) (nzb15) (nzb16) (fzb17) (izb18) (nzb19) (nzb20) (izb21) (izb22) (izb23) (nzb24) (izb25) (izb26) (fzb27)) [⟨13, tp2, 8, elV tp2 fzb4, al rfl _ _⟩, ⟨17, tp2, nzb5 + 1, av nzb5 (elV tp2 fzb9) fun x => [vi izb6, vi izb7], dX (al rfl _ _) (dh rfl _ rfl)⟩])))))))))))))))))))
def m57 (x0 x1 x2 x3 x4 x5 x6 x7 : Int) (b8 : Bool) (x9 x10 x11 x12 : Int) : RT S57 := .br (b8) (.ret (V.kb false)) (.obc (.obt (.brt (.obt (.obc (.obt (.obc (.obt (.obt (.obt (.brt (.obt (.obc (.obt (.obc (.obt (.obt (.obt (.brt (.obt (.obc (.obt (.obc (.obt (.obt (.obt (.brt (.obt (.obc (.obt (.obc (.obt (.obt (.obt (.brf (.obc (.obt (.brt (.enter (iR 0 14 []) (S57.L0 (i64.wrap (0 + 1)) (av 6 (av 4 (av 2 (fun i => List.take 2 (List.drop (i * 2) [vi (aW x0 x2 x9 x3), vi (aV x1 x2 x10 x3), vi (aW x0 x2 x9 x4), vi (aV x1 x2 x10 x4)])) fun i => List.take 2 (List.drop (i * 2) [vi (aW x0 x2 x11 x3), vi (aV x1 x2 x10 x3), vi (aW x0 x2 x11 x4), vi (aV x1 x2 x10 x4)])) fun i => List.take 2 (List.drop (i * 2) [vi (aW x0 x2 x11 x3), vi (aV x1 x2 x12 x3), vi (aW x0 x2 x11 x4), vi (aV x1 x2 x12 x4)])) fun i => List.take 2 (List.drop (i * 2) [vi (aW x0 x2 x9 x3), vi (aV x1 x2 x12 x3), vi (aW x0 x2 x9 x4), vi (aV x1 x2 x12 x4)]))) [⟨13, tp2, 8, av 6 (av 4 (av 2 (fun i => List.take 2 (List.drop (i * 2) [vi (aW x0 x2 x9 x3), vi (aV x1 x2 x10 x3), vi (aW x0 x2 x9 x4), vi (aV x1 x2 x10 x4)])) fun i => List.take 2 (List.drop (i * 2) [vi (aW x0 x2 x11 x3), vi (aV x1 x2 x10 x3), vi (aW x0 x2 x11 x4), vi (aV x1 x2 x10 x4)])) fun i => List.take 2 (List.drop (i * 2) [vi (aW x0 x2 x11 x3), vi (aV x1 x2 x12 x3), vi (aW x0 x2 x11 x4), vi (aV x1 x2 x12 x4)])) fun i => List.take 2 (List.drop (i * 2) [vi (aW x0 x2 x9 x3), vi (aV x1 x2 x12 x3), vi (aW x0 x2 x9 x4), vi (aV x1 x2 x12 x4)]), Cp rfl rfl⟩])))))))))))))))))))))))))))))))))))))))
theorem Kg (x0 x1 x2 x3 x4 x5 x6 x7 : Int) (b8 : Bool) (x9 x10 x11 x12 : Int) : jF fw u57 (D57 x0 x1 x2 x3 x4 x5 x6 x7 b8 x9 x10 x11 x12) (Hv x0 x1 x2 x3 x4 x5 x6 x7 b8 x9 x10 x11 x12) (m57 x0 x1 x2 x3 x4 x5 x6 x7 b8 x9 x10 x11 x12) (cL x0 x1 x2 x3 x4 x5 x6 x7 b8 x9 x10 x11 x12) := ⟨⟨by kernel_rfl, by kernel_rfl⟩, fun s => by cases s <;> exact ⟨by kernel_rfl, by kernel_rfl⟩⟩
attribute [local irreducible] eu bR ln
def pl57 (x0 x1 x2 x3 x4 x9 x10 x11 x12 : Int) : List P2 := [(aW x0 x2 x9 x3, aV x1 x2 x10 x3), (aW x0 x2 x9 x4, aV x1 x2 x10 x4), (aW x0 x2 x11 x3, aV x1 x2 x10 x3), (aW x0 x2 x11 x4, aV x1 x2 x10 x4), (aW x0 x2 x11 x3, aV x1 x2 x12 x3), (aW x0 x2 x11 x4, aV x1 x2 x12 x4), (aW x0 x2 x9 x3, aV x1 x2 x12 x3), (aW x0 x2 x9 x4, aV x1 x2 x12 x4)]
def F57 (x0 x1 x2 x3 x4 x5 x6 x7 : Int) (b8 : Bool) (x9 x10 x11 x12 : Int) : Bool := !b8 && zZ (pl57 x0 x1 x2 x3 x4 x9 x10 x11 x12) (x5, x6) x7
def zD (x0 x1 x2 x3 x4 x5 x6 x7 x9 x10 x11 x12 : Int) : Prop := (-100000 <= x0 /\ x0 <= 100000) /\ (-100000 <= x1 /\ x1 <= 100000) /\ (0 <= x2 /\ x2 <= 200) /\ (0 <= x3 /\ x3 <= 200) /\ (0 <= x4 /\ x4 <= 200) /\ sm x5 /\ sm x6 /\ (0 <= x7 /\ x7 <= 1073741824) /\ (-100000 <= x9 /\ x9 <= 100000) /\ (-100000 <= x10 /\ x10 <= 100000) /\ (-100000 <= x11 /\ x11 <= 100000) /\ (-100000 <= x12 /\ x12 <= 100000)
theorem atS {l h n x : Int} (hl : -100000 <= l /\ l <= 100000) (hh : 0 <= h /\ h <= 200) (hn : 0 <= n /\ n <= 200) (hx : -100000 <= x /\ x <= 100000) : aW l h x n = h * l + n * (x - l) /\ aV l h x n = h * l + n * (x - l) /\ sm (h * l + n * (x - l)) := by
 have k1 := kq (x := h) (y := l) (A := 200) (B := 100000) (by omega) (by omega) (by omega) (by omega)
 have k2 := kq (x := n) (y := x - l) (A := 200) (B := 200000) (by omega) (by omega) (by omega) (by omega)
 unfold aW aV aG aH
 rw [aA (x := x - l) (by omega) (by omega), aA (x := h * l) (by omega) (by omega), aA (x := n * (x - l)) (by omega) (by omega), aA (x := h * l + n * (x - l)) (by omega) (by omega)]
 exact ⟨rfl, rfl, by unfold sm; omega⟩
theorem C9 {x0 x1 x2 x3 x4 x5 x6 x7 x9 x10 x11 x12 : Int} (h : zD x0 x1 x2 x3 x4 x5 x6 x7 x9 x10 x11 x12) : ∀ q ∈ pl57 x0 x1 x2 x3 x4 x9 x10 x11 x12, SmP q := by
 obtain ⟨h0, h1, h2, h3, h4, h5, h6, h7, h9, h10, h11, h12⟩ := h
 have k : ∀ a b n : Int, (-100000 <= a /\ a <= 100000) -> (-100000 <= b /\ b <= 100000) -> (0 <= n /\ n <= 200) -> SmP (aW x0 x2 a n, aV x1 x2 b n) := fun a b n ha hb hn => by
  have e1 := atS h0 h2 hn ha
  have e2 := atS h1 h2 hn hb
  exact ⟨by show sm (aW x0 x2 a n); rw [e1.1]; exact e1.2.2, by show sm (aV x1 x2 b n); rw [e2.2.1]; exact e2.2.2⟩
 intro q hq
 simp only [pl57, List.mem_cons, List.not_mem_nil, or_false] at hq
 rcases hq with rfl | rfl | rfl | rfl | rfl | rfl | rfl | rfl
 ·exact k _ _ _ h9 h10 h3
 ·exact k _ _ _ h9 h10 h4
 ·exact k _ _ _ h11 h10 h3
 ·exact k _ _ _ h11 h10 h4
 ·exact k _ _ _ h11 h12 h3
 ·exact k _ _ _ h11 h12 h4
 ·exact k _ _ _ h9 h12 h3
 ·exact k _ _ _ h9 h12 h4
theorem IS (x0 x1 x2 x3 x4 x5 x6 x7 : Int) (b8 : Bool) (x9 x10 x11 x12 : Int) (hm : SmP (x5, x6)) (h7 : 0 <= x7) (h8 : x7 <= 1073741824) {n cap : Nat} {fo : (Nat -> List V)} (hc : n <= cap) (hC : cap <= 100) (h1 : 1 <= n) (hs : ∀ k, k < n -> SmP (pq fo k)) :
 Ev (cL x0 x1 x2 x3 x4 x5 x6 x7 b8 x9 x10 x11 x12) (.L5 0 (n : Int) n (decide (2 < (n : Int))) cap fo) (.bool (tpB (ptL n fo) (x5, x6) x7)) := by
 have key : ∀ i, i <= n -> ∀ (b : Bool) (g : (Nat -> List V)), (∀ k, pq g k = pq fo k) -> (b = true ↔ 2 < n /\ ∀ k, k < i -> 0 < sdp (pq fo k) (pq fo ((k + 1) % n)) (x5, x6)) -> (∀ k, k < i -> nrp (pq fo k) (pq fo ((k + 1) % n)) (x5, x6) x7 = false) -> Ev (cL x0 x1 x2 x3 x4 x5 x6 x7 b8 x9 x10 x11 x12) (.L5 (i : Int) (n : Int) n b cap g) (.bool (tpB (ptL n fo) (x5, x6) x7)) := by
  refine dM fun i hi ih b g hg hb hN => ?_
  by_cases hlt : i < n
  ·have hmod : (i + 1) % n < n := Nat.mod_lt _ (by omega)
   have e : (i64.wrap ((i : Int) + 1)).tmod (n : Int) = (((i + 1) % n : Nat) : Int) := by
    rw [wp1 (by omega)]; exact (Int.ofNat_tmod _ _).symm
   have n1 : eu (pq g i).1 (pq g i).2 (pq g ((i + 1) % n)).1 (pq g ((i + 1) % n)).2 x5 x6 x7 = nrp (pq fo i) (pq fo ((i + 1) % n)) (x5, x6) x7 := by
    rw [hg, hg]; exact nrT (a := pq fo i) (b := pq fo ((i + 1) % n)) (p := (x5, x6)) (hs i hlt) (hs _ hmod) hm h7 h8
   have n2 : bR (pq g i).1 (pq g i).2 (pq g ((i + 1) % n)).1 (pq g ((i + 1) % n)).2 x5 x6 = sdp (pq fo i) (pq fo ((i + 1) % n)) (x5, x6) := by
    rw [hg, hg]; exact sdT (a := pq fo i) (b := pq fo ((i + 1) % n)) (p := (x5, x6)) (hs i hlt) (hs _ hmod) hm
   refine Ev.of rfl (cX (dqt (by omega)) (ac (dqt (by omega)) (ac (dqt (by omega)) (ac (dqt (by omega)) (ac (dqt (by rw [e]; omega)) (ac (dqt (by rw [e]; omega)) (ar (af ?_))))))))
   have hstep : ∀ b', (b' = true ↔ b = true /\ 0 < sdp (pq fo i) (pq fo ((i + 1) % n)) (x5, x6)) -> nrp (pq fo i) (pq fo ((i + 1) % n)) (x5, x6) x7 = false -> Ev (cL x0 x1 x2 x3 x4 x5 x6 x7 b8 x9 x10 x11 x12) (.L5 (i64.wrap ((i : Int) + 1)) (n : Int) n b' cap (elV ty2 g)) (.bool (tpB (ptL n fo) (x5, x6) x7)) := fun b' hb' hn => by
    rw [wp1 (by omega)]
    refine ih hlt b' _ (fun k => hg k) ?_ ?_
    ·rw [hb', hb]
     constructor
     ·rintro ⟨⟨q1, q2⟩, q3⟩
      refine ⟨q1, fun k hk => ?_⟩
      by_cases ek : k = i
      ·rw [ek]; exact q3
      ·exact q2 k (by omega)
     ·rintro ⟨q1, q2⟩
      exact ⟨⟨q1, fun k hk => q2 k (by omega)⟩, q2 i (by omega)⟩
    ·intro k hk
     by_cases ek : k = i
     ·rw [ek]; exact hn
     ·exact hN k (by omega)
   have e' : ((i64.wrap ((i : Int) + 1)).tmod (n : Int)).toNat = (i + 1) % n := by rw [e]; rfl
   refine aL (fun hx => ao ?_) (fun hx => ak (aL (fun hb0 => ac hb0 (ac hb0 (ar (af (aR ?_))))) (fun hb0 => aR ?_)))
   ·rw [e'] at hx
    have hx : nrp (pq fo i) (pq fo ((i + 1) % n)) (x5, x6) x7 = true := n1.symm.trans hx
    rw [Es (.inl ⟨i, by rw [bK]; exact hlt, by rw [bK, dW hlt, dW hmod]; exact hx⟩)]; rfl
   ·rw [e'] at hx ⊢
    refine hstep _ ?_ (n1.symm.trans hx)
    rw [decide_eq_true_eq]
    have n2' : bR (jv0 (g (i : Int).toNat)) (jv1 (g (i : Int).toNat)) (jv0 (g ((i + 1) % n))) (jv1 (g ((i + 1) % n))) x5 x6 = _ := n2
    rw [n2']
    exact ⟨fun q => ⟨hb0, q⟩, fun q => q.2⟩
   ·rw [e'] at hx
    refine hstep _ ?_ (n1.symm.trans hx)
    rw [hb0]
    exact ⟨(fun q => by cases q), fun q => q.1⟩
  ·have ei : i = n := by omega
   subst ei
   refine Ev.of rfl (cH (dqf (by omega)) (ao ?_))
   have : b = tpB (ptL i fo) (x5, x6) x7 := by
    cases hb' : b with
    | true =>
      have := hb.1 hb'
      refine (Es (.inr ⟨by rw [bK]; exact this.1, fun k hk => ?_⟩)).symm
      rw [bK] at hk ⊢
      rw [dW hk, dW (Nat.mod_lt _ (by omega))]
      exact this.2 k hk
    | false =>
      refine (HW ?_).symm
      rintro (⟨k, hk, h⟩ | ⟨q1, q2⟩)
      ·rw [bK] at hk h
       rw [dW hk, dW (Nat.mod_lt _ (by omega)), hN k hk] at h; cases h
      ·rw [bK] at q1 q2
       have := hb.2 ⟨q1, fun k hk => by
        have := q2 k hk
        rwa [dW hk, dW (Nat.mod_lt _ (by omega))] at this⟩
       rw [hb'] at this; cases this
   rw [this]
 exact key 0 (Nat.zero_le _) _ fo (fun _ => rfl) ⟨fun h => ⟨by have := of_decide_eq_true h; omega, fun k hk => by omega⟩, fun h => dqt (by omega)⟩ (fun k hk => by omega)
theorem JH (x0 x1 x2 x3 x4 x5 x6 x7 : Int) (b8 : Bool) (x9 x10 x11 x12 : Int) {r : V} {D : P2 -> Prop} (hD : ∀ q, D q -> SmP q) (h2 : ∀ f j g, Srt 8 f -> iA 8 D f -> Ev (cL x0 x1 x2 x3 x4 x5 x6 x7 b8 x9 x10 x11 x12) (.L2 1 f j g) r) {f : (Nat -> List V)} (hf : iA 8 D f) : Ev (cL x0 x1 x2 x3 x4 x5 x6 x7 b8 x9 x10 x11 x12) (.L0 1 f) r := by
 refine pf (N := 8) (D := D) (P0 := fun i f => Ev (cL x0 x1 x2 x3 x4 x5 x6 x7 b8 x9 x10 x11 x12) (.L0 (i : Int) f) r) (P1 := fun j i f => Ev (cL x0 x1 x2 x3 x4 x5 x6 x7 b8 x9 x10 x11 x12) (.L1 (j : Int) (i : Int) f) r) ?_ ?_ ?_ ?_ 7 1 f rfl (Nat.le_refl _) (fun a b h1 h2 => by omega) hf
 ·intro i f h1 h2 h
  exact Ev.of rfl (cX (dqt (by omega)) (aJ h))
 ·intro f hs hm
  exact Ev.of rfl (cH (dqf (by omega)) (bD (aJ (h2 _ _ _ hs hm))))
 ·intro j i f h0 hji hi hm hlt h
  have e := wm1 h0 (by omega)
  have hC : decide (0 < (j : Int)) = true := dqt (by omega)
  have hlt' := (Hw (hD _ ((hm _).2 ⟨j, by omega, rfl⟩)) (hD _ ((hm _).2 ⟨j - 1, by omega, rfl⟩))).2 hlt
  refine Ev.of rfl (ak (ak (eJ (fun _ => dqt (by first | omega | (rw [e]; omega))) (ak (eJ (fun _ => dqt (by first | omega | (rw [e]; omega))) (ak (ak (ak (eJ (fun _ => dqt (by first | omega | (rw [e]; omega))) (ak (eJ (fun _ => dqt (by first | omega | (rw [e]; omega))) (cX hC (ac hC (ac hC (ac hC (ar (af (cX ?_
   (ac (dqt (by first | omega | (rw [e]; omega))) (ac (dqt (by first | omega | (rw [e]; omega))) (ac (dqt (by first | omega | (rw [e]; omega))) (ac (dqt (by first | omega | (rw [e]; omega))) (ac (dqt (by first | omega | (rw [e]; omega))) (ac (dqt (by first | omega | (rw [e]; omega))) (ac (dqt (by first | omega | (rw [e]; omega))) (ac (dqt (by first | omega | (rw [e]; omega))) (aR ?_)))))))))))))))))))))))))))
  ·rw [e]; exact hlt'
  ·rw [e]; exact h
 ·intro j i f hji hi hm hn h
  have h' : Ev (cL x0 x1 x2 x3 x4 x5 x6 x7 b8 x9 x10 x11 x12) (.L0 (i64.wrap ((i : Int) + 1)) (elV ty2 f)) r := by rw [wp1 (by omega)]; exact h
  by_cases h0 : 0 < j
  ·have e := wm1 h0 (by omega)
   have hC : decide (0 < (j : Int)) = true := dqt (by omega)
   have hlt' := fun hh => hn h0 ((Hw (hD _ ((hm _).2 ⟨j, by omega, rfl⟩)) (hD _ ((hm _).2 ⟨j - 1, by omega, rfl⟩))).1 hh)
   refine Ev.of rfl (ak (ak (eJ (fun _ => dqt (by first | omega | (rw [e]; omega))) (ak (eJ (fun _ => dqt (by first | omega | (rw [e]; omega))) (ak (ak (ak (eJ (fun _ => dqt (by first | omega | (rw [e]; omega))) (ak (eJ (fun _ => dqt (by first | omega | (rw [e]; omega))) (cX hC (ac hC (ac hC (ac hC (ar (af (cH ?_ (aR h')))))))))))))))))))
   rw [e]; exact Bool.eq_false_iff.2 hlt'
  ·have hC : decide (0 < (j : Int)) = false := dqf (by omega)
   have hx : ∀ {b : Bool}, decide (0 < (j : Int)) = true -> b = true := fun hh => by rw [hC] at hh; cases hh
   exact Ev.of rfl (ak (ak (eJ hx (ak (eJ hx (ak (ak (ak (eJ hx (ak (eJ hx (cH hC (aR h')))))))))))))
theorem JP (x0 x1 x2 x3 x4 x5 x6 x7 : Int) (b8 : Bool) (x9 x10 x11 x12 : Int) {r : V} {D : P2 -> Prop} (h4 : ∀ f j g, SSr 8 f -> iA 8 D f -> Ev (cL x0 x1 x2 x3 x4 x5 x6 x7 b8 x9 x10 x11 x12) (.L4 0 f 0 (fun _ => []) j g) r) (h5 : ∀ m f, 1 <= m -> m < 3 -> SSr m f -> iA m D f -> Ev (cL x0 x1 x2 x3 x4 x5 x6 x7 b8 x9 x10 x11 x12) (.L5 0 (m : Int) m (decide (2 < (m : Int))) 8 f) r)
 (h12 : ∀ m f i n1 n2 i1 i2 i3 n3 i4 g, 3 <= m -> m < 8 -> SSr m f -> iA m D f -> Ev (cL x0 x1 x2 x3 x4 x5 x6 x7 b8 x9 x10 x11 x12) (.L12 0 (m : Int) m f 0 (fun _ => []) i n1 n2 i1 i2 i3 n3 i4 (m : Int) g) r) {f : (Nat -> List V)} (j : Int) (g : (Nat -> List V)) (hs : Srt 8 f) (hf : iA 8 D f) : Ev (cL x0 x1 x2 x3 x4 x5 x6 x7 b8 x9 x10 x11 x12) (.L2 1 f j g) r := by
 refine uv (N := 8) (D := D) (P2' := fun i f => ∀ j g, Ev (cL x0 x1 x2 x3 x4 x5 x6 x7 b8 x9 x10 x11 x12) (.L2 (i : Int) f j g) r) (P3 := fun k off m f => ∀ i1 i2 i3 n i4 i5 g, Ev (cL x0 x1 x2 x3 x4 x5 x6 x7 b8 x9 x10 x11 x12) (.L3 (k : Int) off (8 - off) i1 i2 i3 n i4 (m : Int) f i5 g) r) ?_ ?_ ?_ ?_ ?_ ?_ 7 1 f rfl (Nat.le_refl _) hs (fun a b h1 h2 => by omega) hf j g
 ·intro f hs hm j g
  exact Ev.of rfl (cH (dqf (by omega)) (bD (aJ (h4 _ _ _ hs hm))))
 ·intro i f h1 h8 hne h j g
  have e := wm1 (show 0 < i by omega) (by omega)
  refine Ev.of rfl (cX (dqt (by omega)) (ac (dqt (by first | omega | (rw [e]; omega))) (ac (dqt (by first | omega | (rw [e]; omega))) (ac (dqt (by first | omega | (rw [e]; omega))) (ac (dqt (by first | omega | (rw [e]; omega))) (cH ?_ (aR ?_)))))))
  ·rw [e]; exact (eqB _ _ _ _).trans (dqf hne)
  ·rw [wp1 (by omega)]; exact h j g
 ·intro i f h1 h8 he h j g
  have e := wm1 (show 0 < i by omega) (by omega)
  refine Ev.of rfl (cX (dqt (by omega)) (ac (dqt (by first | omega | (rw [e]; omega))) (ac (dqt (by first | omega | (rw [e]; omega))) (ac (dqt (by first | omega | (rw [e]; omega))) (ac (dqt (by first | omega | (rw [e]; omega))) (cX ?_ (ac (dqt (by omega)) (aJ (h _ _ _ _ _ _ _)))))))))
  rw [e]; exact (eqB _ _ _ _).trans (dqt he)
 ·intro k off m f h1 hN hm hmk hne h i1 i2 i3 n i4 i5 g
  have e := wm1 (show 0 < k by omega) (by omega)
  refine Ev.of rfl (cX (dqt (by omega)) (ac (dqt (by first | omega | (rw [e]; omega))) (ac (dqt (by first | omega | (rw [e]; omega))) (ac (dqt (by first | omega | (rw [e]; omega))) (ac (dqt (by first | omega | (rw [e]; omega))) (cX ?_ (ac (dqt (by first | omega | (rw [e]; omega))) (ac (dqt (by first | omega | (rw [e]; omega))) (ac (dqt (by first | omega | (rw [e]; omega))) (ac (dqt (by first | omega | (rw [e]; omega))) (aR ?_)))))))))))
  ·rw [e]; exact ntT ((eqB _ _ _ _).trans (dqf hne))
  ·rw [wp1 (j := k) (by omega), wp1 (j := m) (by omega)]; exact h _ _ _ _ _ _ _
 ·intro k off m f h1 hN hm hmk he h i1 i2 i3 n i4 i5 g
  have e := wm1 (show 0 < k by omega) (by omega)
  refine Ev.of rfl (cX (dqt (by omega)) (ac (dqt (by first | omega | (rw [e]; omega))) (ac (dqt (by first | omega | (rw [e]; omega))) (ac (dqt (by first | omega | (rw [e]; omega))) (ac (dqt (by first | omega | (rw [e]; omega))) (cH ?_ (aR ?_)))))))
  ·rw [e]; exact ntF ((eqB _ _ _ _).trans (dqt he))
  ·rw [wp1 (j := k) (by omega)]; exact h _ _ _ _ _ _ _
 ·intro off m f hoff hm1 hmN hs hm i1 i2 i3 n i4 i5 g
  refine Ev.of rfl (cH (dqf (by omega)) (ac (dqt (by omega)) (ac (dqt (by omega)) (ac (dqt (by omega)) (aL (fun hh => aJ ?_) (fun hh => aJ ?_))))))
  ·have := of_decide_eq_true hh
   exact h5 m _ hm1 (by omega) (hs.cong fun k hk => sQ hk) (hm.cong fun k hk => sQ hk)
  ·have := of_decide_eq_false hh
   exact h12 m _ _ _ _ _ _ _ _ _ _ (by omega) hmN (hs.cong fun k hk => sQ hk) (hm.cong fun k hk => sQ hk)
theorem uF {c : List P2} {i : Nat} (h : i < c.length) : pAt c i ∈ c := by
 have := eC h
 exact List.mem_of_getElem? this
theorem sdX {fo : Nat -> List V} {p : P2} {n : Nat} {s : Int} (w1 : i64.wrap ((n : Int) - 1) = ((n - 1 : Nat) : Int)) (w2 : i64.wrap ((n : Int) - 2) = ((n - 2 : Nat) : Int)) (e : bR (pq fo (n - 2)).1 (pq fo (n - 2)).2 (pq fo (n - 1)).1 (pq fo (n - 1)).2 p.1 p.2 = s) :
 decide (bR (jv0 (fo (i64.wrap ((n : Int) - 2)).toNat)) (jv1 (fo (i64.wrap ((n : Int) - 2)).toNat)) (jv0 (fo (i64.wrap ((n : Int) - 1)).toNat)) (jv1 (fo (i64.wrap ((n : Int) - 1)).toNat)) p.1 p.2 <= 0) = decide (s <= 0) := by
 rw [w1, w2, ← e]; rfl
theorem LM (x0 x1 x2 x3 x4 x5 x6 x7 : Int) (b8 : Bool) (x9 x10 x11 x12 : Int) {r : V} {c : List P2} {bl : Nat} {base : List P2} {f : (Nat -> List V)} (hf : ptL 8 f = c) (hsm : ∀ q ∈ c, SmP q) (hb : ∀ q ∈ base, SmP q) (hbl : base.length = bl) (hb8 : bl <= 8)
 (h5 : ∀ n fo cap, n <= cap -> cap <= 100 -> ptL n fo = base ++ (aE [] c).tail.reverse -> n = base.length + (aE [] c).tail.length -> Ev (cL x0 x1 x2 x3 x4 x5 x6 x7 b8 x9 x10 x11 x12) (.L5 0 (n : Int) n (decide (2 < (n : Int))) cap fo) r)
 {cap : Nat} {fo : (Nat -> List V)} (hc : bl <= cap) (hcM : cap <= 50) (hfo : ptL bl fo = base) (i5 : Int) (i6 : Int) (f7 : (Nat -> List V)) (f8 : (Nat -> List V)) (i9 : Int) (f10 : (Nat -> List V)) : Ev (cL x0 x1 x2 x3 x4 x5 x6 x7 b8 x9 x10 x11 x12) (.L18 (bl : Int) f bl cap fo i5 i6 f7 f8 i9 f10) r := by
 have hcl : c.length = 8 := by rw [← hf, bK]
 have ew := wp1 (j := bl) (by omega)
 have e0 : i64.wrap (0 + 1) = ((1 : Nat) : Int) := by rw [aA (by omega) (by omega)]; rfl
 have at' : ∀ (g : (Nat -> List V)), (∀ k, k < 8 -> pq g k = pq f k) -> ∀ i, i < 8 -> pAt c i = pq g i := fun g hg i hi => by rw [hg i hi, ← hf]; exact dW hi
 have key := iE (base := base) (c := c) (M := bl + 8) (by omega)
  (PO := fun i n fo => ∀ (g : (Nat -> List V)) (ix : Int) (iy : Int) (i7 : Int) (i8 : Int) (f9 : (Nat -> List V)) (n10 : Nat) (n11 : Nat) (f12 : (Nat -> List V)) (i13 : Int) (f14 : (Nat -> List V)), (∀ k, k < 8 -> pq g k = pq f k) -> Ev (cL x0 x1 x2 x3 x4 x5 x6 x7 b8 x9 x10 x11 x12) (.L22 (i : Int) (bl : Int) g n ix iy fo i7 i8 f9 n10 n11 f12 i13 f14) r)
  (PI := fun i n cap fo => ∀ (g : (Nat -> List V)) (i7 : Int) (i8 : Int) (f9 : (Nat -> List V)) (n10 : Nat) (n11 : Nat) (f12 : (Nat -> List V)) (i13 : Int) (f14 : (Nat -> List V)), (∀ k, k < 8 -> pq g k = pq f k) -> Ev (cL x0 x1 x2 x3 x4 x5 x6 x7 b8 x9 x10 x11 x12) (.L23 (i : Int) (bl : Int) g n (pAt c i).1 (pAt c i).2 cap fo i7 i8 f9 n10 n11 f12 i13 f14) r) ?_ ?_ ?_ ?_
 ·-- the first round
  obtain ⟨p, l, ec⟩ : ∃ p l, c = p :: l := by
   cases c with
   | nil => simp at hcl
   | cons p l => exact ⟨p, l, rfl⟩
  have hp : pq f 0 = p := by
   have := at' f (fun _ _ => rfl) 0 (by omega)
   rw [← this, ec]; rfl
  subst hp
  have k1 := key l [pq f 0] [pq f 0] (bl + 1) (av bl (elV ty2 fo) fun _ => pv2 (pq f 0)) (by rw [ec]; rfl) (by rw [ec]; rfl) (by rw [pO, hfo]; rfl) (Nat.le_refl _) (fun q hq => by rw [ec]; simp at hq; simp [hq])
  have T0 : ∀ (i7 : Int) (i8 : Int) (f9 : (Nat -> List V)) (n10 : Nat) (f11 : (Nat -> List V)) (i12 : Int) (f13 : (Nat -> List V)), Ev (cL x0 x1 x2 x3 x4 x5 x6 x7 b8 x9 x10 x11 x12) (.L20 (bl : Int) (elV ty2 f) bl cap (elV ty2 fo) (pq f 0).1 (pq f 0).2 i7 i8 f9 n10 f11 i12 f13) r := by
   intro i7 i8 f9 n10 f11 i12 f13
   have hC : decide (i64.wrap ((bl : Int) + 1) < (bl : Int)) = false := dqf (by rw [ew]; omega)
   have hx : ∀ {P : Prop}, decide (i64.wrap ((bl : Int) + 1) < (bl : Int)) = true -> P := fun hh => by rw [hC] at hh; cases hh
   refine Ev.of rfl (er hx hx hx fun _ => af (ac (iC hc (by omega)) (aR ?_)))
   rw [e0]
   exact k1 (elV ty2 f) _ _ _ _ _ _ _ _ _ _ (fun k hk => rfl)
  exact Ev.of rfl (bz (af (af (aJ (T0 _ _ _ _ _ _ _)))))
 ·intro i n fo hi hn h g ix iy i7 i8 f9 n10 n11 f12 i13 f14 hg
  rw [hcl] at hi
  have e := at' g hg i hi
  have h' := h
  rw [e] at h'
  exact Ev.of rfl (cX (dqt (by omega)) (ac (dqt (by omega)) (ac (dqt (by omega)) (aJ (h' (elV ty2 g) _ _ _ _ _ _ _ _ (fun k hk => hg k hk))))))
 ·intro i n cap fo hi h1 h2 h3' hel hs h g i7 i8 f9 n10 n11 f12 i13 f14 hg
  have hb2 : bl + 1 < n := by rw [← hbl]; exact h1
  have w1 := wm1 (j := n) (by omega) (by omega)
  have w2 := wm2 (j := n) (by omega) (by omega)
  have sm : ∀ k, k < n -> SmP (pq fo k) := fun k hk => (hel k hk).elim (hb _) (hsm _)
  have e3 := sdT (sm (n - 2) (by omega)) (sm (n - 1) (by omega)) (hsm (pAt c i) (uF hi))
  have hC : decide (i64.wrap ((bl : Int) + 1) < (n : Int)) = true := dqt (by rw [ew]; omega)
  have hS := sdX (fo := fo) (p := pAt c i) w1 w2 e3
  refine Ev.of rfl (er (fun _ => ⟨dqt (by rw [w2]; omega), dqt (by rw [w2]; omega), dqt (by rw [w1]; omega), dqt (by rw [w1]; omega)⟩) (fun _ _ => ac (dqt (by rw [w1]; omega)) (aR ?_)) (fun _ hf => by rw [hS, dqt hs] at hf; cases hf) (fun hf => by rw [hC] at hf; cases hf))
  rw [w1]; exact h (elV ty2 g) _ _ _ _ _ _ _ _ (fun k hk => hg k hk)
 ·intro i n cap fo hi h1 hel hs h2 h3' h g i7 i8 f9 n10 n11 f12 i13 f14 hg
  have nx : ∀ (_ : Unit), Ev (cL x0 x1 x2 x3 x4 x5 x6 x7 b8 x9 x10 x11 x12) (.L22 (i64.wrap ((i : Int) + 1)) (bl : Int) (elV ty2 g) (n + 1) (pAt c i).1 (pAt c i).2 (av n (elV ty2 fo) fun _ => pv2 (pAt c i)) i7 i8 f9 n10 n11 f12 i13 f14) r := fun _ => by rw [wp1 (j := i) (by omega)]; exact h (elV ty2 g) _ _ _ _ _ _ _ _ _ _ (fun k hk => hg k hk)
  by_cases hb2 : bl + 1 < n
  ·have w1 := wm1 (j := n) (by omega) (by omega)
   have w2 := wm2 (j := n) (by omega) (by omega)
   have sm : ∀ k, k < n -> SmP (pq fo k) := fun k hk => (hel k hk).elim (hb _) (hsm _)
   have e3 := sdT (sm (n - 2) (by omega)) (sm (n - 1) (by omega)) (hsm (pAt c i) (uF hi))
   have hC : decide (i64.wrap ((bl : Int) + 1) < (n : Int)) = true := dqt (by rw [ew]; omega)
   have hS := sdX (fo := fo) (p := pAt c i) w1 w2 e3
   have hs' := hs (by first | exact hb2 | (rw [hbl]; exact hb2))
   exact Ev.of rfl (er (fun _ => ⟨dqt (by rw [w2]; omega), dqt (by rw [w2]; omega), dqt (by rw [w1]; omega), dqt (by rw [w1]; omega)⟩) (fun _ hf => by rw [hS, dqf (by omega)] at hf; cases hf) (fun _ _ => af (ac (iC h2 (by omega)) (aR (nx ())))) (fun hf => by rw [hC] at hf; cases hf))
  ·have hC : decide (i64.wrap ((bl : Int) + 1) < (n : Int)) = false := dqf (by rw [ew]; omega)
   have hx : ∀ {P : Prop}, decide (i64.wrap ((bl : Int) + 1) < (n : Int)) = true -> P := fun hh => by rw [hC] at hh; cases hh
   exact Ev.of rfl (er hx hx hx fun _ => af (ac (iC h2 (by omega)) (aR (nx ()))))
 ·intro n fo hpt g ix iy i7 i8 f9 n10 n11 f12 i13 f14 hg
  rw [hcl]
  obtain ⟨q1, q2, q3, q4⟩ := lL hpt (iL (.inr (by intro h; rw [h] at hcl; simp at hcl)))
  have w1 := wm1 (j := n) q1 (by have := d5 (l := c) (st := []); simp only [List.length_nil] at this; omega)
  have hl := d5 (l := c) (st := [])
  simp only [List.length_nil] at hl
  have := h5 (n - 1) (elV ty2 fo) n (by omega) (by omega) q2 (by rw [List.length_tail]; omega)
  refine Ev.of rfl (cH (dqf (by omega)) (ac (dqt (by rw [w1]; omega)) (aJ ?_)))
  rw [w1]; exact this
theorem L9 (x0 x1 x2 x3 x4 x5 x6 x7 : Int) (b8 : Bool) (x9 x10 x11 x12 : Int) {r : V} {f : (Nat -> List V)} (hS : SSr 8 f) (hsm : ∀ q ∈ ptL 8 f, SmP q)
 (h5 : ∀ n fo cap, n <= cap -> cap <= 100 -> ptL n fo = cV (ptL 8 f) -> n = (cV (ptL 8 f)).length -> Ev (cL x0 x1 x2 x3 x4 x5 x6 x7 b8 x9 x10 x11 x12) (.L5 0 (n : Int) n (decide (2 < (n : Int))) cap fo) r) (ia : Int) (fz : (Nat -> List V)) : Ev (cL x0 x1 x2 x3 x4 x5 x6 x7 b8 x9 x10 x11 x12) (.L4 0 f 0 (fun _ => []) ia fz) r := by
 generalize hc : ptL 8 f = c at *
 have hcl : c.length = 8 := by rw [← hc, bK]
 have e0 : i64.wrap (0 + 1) = ((1 : Nat) : Int) := by rw [aA (by omega) (by omega)]; rfl
 have at' : ∀ (g : (Nat -> List V)), (∀ k, k < 8 -> pq g k = pq f k) -> ∀ i, i < 8 -> pAt c i = pq g i := fun g hg i hi => by rw [hg i hi, ← hc]; exact dW hi
 have hlA := d5 (l := c) (st := [])
 simp only [List.length_nil] at hlA
 have key := iE (base := []) (c := c) (M := 8) (by simp; omega)
  (PO := fun i n fo => ∀ (g : (Nat -> List V)) (ia : Int) (fz : (Nat -> List V)), (∀ k, k < 8 -> pq g k = pq f k) -> Ev (cL x0 x1 x2 x3 x4 x5 x6 x7 b8 x9 x10 x11 x12) (.L4 (i : Int) g n fo ia fz) r)
  (PI := fun i n cap fo => ∀ (g : (Nat -> List V)) (ia : Int) (fz : (Nat -> List V)), (∀ k, k < 8 -> pq g k = pq f k) -> Ev (cL x0 x1 x2 x3 x4 x5 x6 x7 b8 x9 x10 x11 x12) (.L7 (i : Int) g n (pAt c i).1 (pAt c i).2 cap fo ia fz) r) ?_ ?_ ?_ ?_
 ·exact key c [] [] 0 (fun _ => []) rfl rfl rfl (Nat.le_refl _) (fun q hq => by cases hq) f ia fz (fun _ _ => rfl)
 ·intro i n fo hi hn h g ia fz hg
  rw [hcl] at hi
  have e := at' g hg i hi
  have h' := h
  rw [e] at h'
  exact Ev.of rfl (cX (dqt (by omega)) (ac (dqt (by omega)) (ac (dqt (by omega)) (aJ (h' (elV ty2 g) _ _ (fun k hk => hg k hk))))))
 ·intro i n cap fo hi h1 h2 h3' hel hs h g ia fz hg
  have hb2 : 0 + 1 < n := by simpa using h1
  have w1 := wm1 (j := n) (by omega) (by omega)
  have w2 := wm2 (j := n) (by omega) (by omega)
  have sm : ∀ k, k < n -> SmP (pq fo k) := fun k hk => (hel k hk).elim (fun h => by cases h) (hsm _)
  have e3 := sdT (sm (n - 2) (by omega)) (sm (n - 1) (by omega)) (hsm (pAt c i) (uF hi))
  have hC : decide (i64.wrap (0 + 1) < (n : Int)) = true := dqt (by rw [e0]; omega)
  have hS := sdX (fo := fo) (p := pAt c i) w1 w2 e3
  refine Ev.of rfl (er (fun _ => ⟨dqt (by rw [w2]; omega), dqt (by rw [w2]; omega), dqt (by rw [w1]; omega), dqt (by rw [w1]; omega)⟩) (fun _ _ => ac (dqt (by rw [w1]; omega)) (aR ?_)) (fun _ hf => by rw [hS, dqt hs] at hf; cases hf) (fun hf => by rw [hC] at hf; cases hf))
  rw [w1]; exact h (elV ty2 g) _ _ (fun k hk => hg k hk)
 ·intro i n cap fo hi h1 hel hs h2 h3' h g ia fz hg
  have nx : ∀ (_ : Unit), Ev (cL x0 x1 x2 x3 x4 x5 x6 x7 b8 x9 x10 x11 x12) (.L4 (i64.wrap ((i : Int) + 1)) (elV ty2 g) (n + 1) (av n (elV ty2 fo) fun _ => pv2 (pAt c i)) ia fz) r := fun _ => by rw [wp1 (j := i) (by omega)]; exact h (elV ty2 g) _ _ (fun k hk => hg k hk)
  by_cases hb2 : 0 + 1 < n
  ·have w1 := wm1 (j := n) (by omega) (by omega)
   have w2 := wm2 (j := n) (by omega) (by omega)
   have sm : ∀ k, k < n -> SmP (pq fo k) := fun k hk => (hel k hk).elim (fun h => by cases h) (hsm _)
   have e3 := sdT (sm (n - 2) (by omega)) (sm (n - 1) (by omega)) (hsm (pAt c i) (uF hi))
   have hC : decide (i64.wrap (0 + 1) < (n : Int)) = true := dqt (by rw [e0]; omega)
   have hS := sdX (fo := fo) (p := pAt c i) w1 w2 e3
   have hs' := hs (by simpa using hb2)
   exact Ev.of rfl (er (fun _ => ⟨dqt (by rw [w2]; omega), dqt (by rw [w2]; omega), dqt (by rw [w1]; omega), dqt (by rw [w1]; omega)⟩) (fun _ hf => by rw [hS, dqf (by omega)] at hf; cases hf) (fun _ _ => af (ac (iC h2 (by omega)) (aR (nx ())))) (fun hf => by rw [hC] at hf; cases hf))
  ·have hC : decide (i64.wrap (0 + 1) < (n : Int)) = false := dqf (by rw [e0]; omega)
   have hx : ∀ {P : Prop}, decide (i64.wrap (0 + 1) < (n : Int)) = true -> P := fun hh => by rw [hC] at hh; cases hh
   exact Ev.of rfl (er hx hx hx fun _ => af (ac (iC h2 (by omega)) (aR (nx ()))))
 ·intro n fo hpt g ia fz hg
  rw [hcl]
  obtain ⟨q1, q2, q3, q4⟩ := lL hpt (iL (.inr (by intro h; rw [h] at hcl; simp at hcl)))
  simp only [List.length_nil, Nat.zero_add, List.nil_append] at q2 q3
  have w1 := wm1 (j := n) q1 (by omega)
  have wN : i64.wrap ((8 : Int) - 1) = ((8 - 1 : Nat) : Int) := by rw [aA (by omega) (by omega)]; rfl
  refine Ev.of rfl (cH (dqf (by omega)) (ac (dqt (by rw [w1]; omega)) (aJ ?_)))
  rw [w1, wN]
  have rev := th (N := 8) (g := pq f) (P := fun i j f2 => ∀ (fo2 : (Nat -> List V)) (ia : Int) (fz : (Nat -> List V)), (∀ k, pq fo2 k = pq fo k) -> Ev (cL x0 x1 x2 x3 x4 x5 x6 x7 b8 x9 x10 x11 x12) (.L13 (j : Int) (i : Int) f2 (n - 1) n fo2 ia fz) r) ?_ ?_
  ·exact rev 8 0 (8 - 1) (elV ty2 g) (by omega) (by omega) (fun k hk => by rw [if_neg (by omega)]; exact hg k hk) (elV ty2 fo) _ _ (fun _ => rfl)
  ·intro i j f2 hij hj h fo2 ia fz hfo2
   have v1 := wm1 (j := j) (by omega) (by omega)
   have v2 := wp1 (j := i) (by omega)
   refine Ev.of rfl (cX (dqt (by omega)) (ac (dqt (by omega)) (ac (dqt (by omega)) (ac (dqt (by omega)) (ac (dqt (by omega)) (ac (dqt (by omega)) (ac (dqt (by omega)) (ac (dqt (by omega)) (ac (dqt (by omega)) (aR ?_))))))))))
   rw [v1, v2]; exact h (elV ty2 fo2) _ _ (fun k => hfo2 k)
  ·intro i j f2 hij hf2 fo2 ia fz hfo2
   have hb : ptL (n - 1) fo2 = (aE [] c).tail.reverse := by rw [tQ fun k _ => hfo2 k]; exact q2
   have hrv : ptL 8 f2 = c.reverse := by rw [← hc]; exact yE hf2
   have hlt : (aE [] c).tail.reverse.length = n - 1 := by rw [List.length_reverse, List.length_tail, ← q3]
   have hu : cV c = (aE [] c).tail.reverse ++ (aE [] c.reverse).tail.reverse := tO (by omega)
   have hbs : ∀ q ∈ (aE [] c).tail.reverse, SmP q := fun q hq => by
    rcases gA (List.mem_of_mem_tail (List.mem_reverse.1 hq)) with h | h
    ·cases h
    ·exact hsm q h
   have fin := LM x0 x1 x2 x3 x4 x5 x6 x7 b8 x9 x10 x11 x12  (r := r) (c := c.reverse) (base := (aE [] c).tail.reverse) (f := elV ty2 f2) hrv (fun q hq => hsm q (List.mem_reverse.1 hq)) hbs hlt (by omega) (fun n fo cap k1 k2 k3 k4 => h5 n fo cap k1 k2 (by rw [hu]; exact k3) (by rw [hu, List.length_append, k4]; congr 1; exact (List.length_reverse ..).symm)) (cap := n) (fo := elV ty2 fo2) (by omega) (by omega) hb
   exact Ev.of rfl (cH (dqf (by omega)) (aJ (fin _ _ _ _ _ _)))
theorem K7 (x0 x1 x2 x3 x4 x5 x6 x7 : Int) (b8 : Bool) (x9 x10 x11 x12 : Int) {r : V} {N : Nat} {c : List P2} {bl : Nat} {base : List P2} {f : (Nat -> List V)} (h3 : 3 <= N) (h8 : N <= 8) (hf : ptL N f = c) (hsm : ∀ q ∈ c, SmP q) (hb : ∀ q ∈ base, SmP q) (hbl : base.length = bl) (hb8 : bl <= 8)
 (h5 : ∀ n fo cap, n <= cap -> cap <= 100 -> ptL n fo = base ++ (aE [] c).tail.reverse -> n = base.length + (aE [] c).tail.length -> Ev (cL x0 x1 x2 x3 x4 x5 x6 x7 b8 x9 x10 x11 x12) (.L5 0 (n : Int) n (decide (2 < (n : Int))) cap fo) r)
 {cap : Nat} {fo : (Nat -> List V)} (hc : bl <= cap) (hcM : cap <= 50) (hfo : ptL bl fo = base) (i7 : Int) (i8 : Int) (i9 : Int) (n10 : Nat) (f11 : (Nat -> List V)) (f12 : (Nat -> List V)) (i13 : Int) (n14 : Nat) (n15 : Nat) (i16 : Int) (i17 : Int) (i18 : Int) (n19 : Nat) (i20 : Int) (i21 : Int) (f22 : (Nat -> List V)) : Ev (cL x0 x1 x2 x3 x4 x5 x6 x7 b8 x9 x10 x11 x12) (.L24 (N : Int) N (bl : Int) f bl cap fo i7 i8 i9 n10 f11 f12 i13 n14 n15 i16 i17 i18 n19 i20 i21 f22) r := by
 have hcl : c.length = N := by rw [← hf, bK]
 have ew := wp1 (j := bl) (by omega)
 have e0 : i64.wrap (0 + 1) = ((1 : Nat) : Int) := by rw [aA (by omega) (by omega)]; rfl
 have at' : ∀ (g : (Nat -> List V)), (∀ k, k < N -> pq g k = pq f k) -> ∀ i, i < N -> pAt c i = pq g i := fun g hg i hi => by rw [hg i hi, ← hf]; exact dW hi
 have key := iE (base := base) (c := c) (M := bl + 8) (by omega)
  (PO := fun i n fo => ∀ (g : (Nat -> List V)) (ix : Int) (iy : Int) (i09 : Int) (i10 : Int) (i11 : Int) (n12 : Nat) (f13 : (Nat -> List V)) (n14 : Nat) (n15 : Nat) (f16 : (Nat -> List V)) (i17 : Int) (n18 : Nat) (n19 : Nat) (i20 : Int) (i21 : Int) (i22 : Int) (n23 : Nat) (i24 : Int) (i25 : Int) (f26 : (Nat -> List V)), (∀ k, k < N -> pq g k = pq f k) -> Ev (cL x0 x1 x2 x3 x4 x5 x6 x7 b8 x9 x10 x11 x12) (.L26 (i : Int) (N : Int) N (bl : Int) g n ix iy fo i09 i10 i11 n12 f13 n14 n15 f16 i17 n18 n19 i20 i21 i22 n23 i24 i25 f26) r)
  (PI := fun i n cap fo => ∀ (g : (Nat -> List V)) (i09 : Int) (i10 : Int) (i11 : Int) (n12 : Nat) (f13 : (Nat -> List V)) (n14 : Nat) (n15 : Nat) (f16 : (Nat -> List V)) (i17 : Int) (n18 : Nat) (n19 : Nat) (i20 : Int) (i21 : Int) (i22 : Int) (n23 : Nat) (i24 : Int) (i25 : Int) (f26 : (Nat -> List V)), (∀ k, k < N -> pq g k = pq f k) -> Ev (cL x0 x1 x2 x3 x4 x5 x6 x7 b8 x9 x10 x11 x12) (.L27 (i : Int) (N : Int) N (bl : Int) g n (pAt c i).1 (pAt c i).2 cap fo i09 i10 i11 n12 f13 n14 n15 f16 i17 n18 n19 i20 i21 i22 n23 i24 i25 f26) r) ?_ ?_ ?_ ?_
 ·-- the first round
  obtain ⟨p, l, ec⟩ : ∃ p l, c = p :: l := by
   cases c with
   | nil => simp at hcl; omega
   | cons p l => exact ⟨p, l, rfl⟩
  have hp : pq f 0 = p := by
   have := at' f (fun _ _ => rfl) 0 (by omega)
   rw [← this, ec]; rfl
  subst hp
  have k1 := key l [pq f 0] [pq f 0] (bl + 1) (av bl (elV ty2 fo) fun _ => pv2 (pq f 0)) (by rw [ec]; rfl) (by rw [ec]; rfl) (by rw [pO, hfo]; rfl) (Nat.le_refl _) (fun q hq => by rw [ec]; simp at hq; simp [hq])
  have T0 : ∀ (i09 : Int) (i10 : Int) (i11 : Int) (n12 : Nat) (f13 : (Nat -> List V)) (n14 : Nat) (f15 : (Nat -> List V)) (i16 : Int) (n17 : Nat) (n18 : Nat) (i19 : Int) (i20 : Int) (i21 : Int) (n22 : Nat) (i23 : Int) (i24 : Int) (f25 : (Nat -> List V)), Ev (cL x0 x1 x2 x3 x4 x5 x6 x7 b8 x9 x10 x11 x12) (.L25 (N : Int) N (bl : Int) (elV ty2 f) bl cap (elV ty2 fo) (pq f 0).1 (pq f 0).2 i09 i10 i11 n12 f13 n14 f15 i16 n17 n18 i19 i20 i21 n22 i23 i24 f25) r := by
   intro i09 i10 i11 n12 f13 n14 f15 i16 n17 n18 i19 i20 i21 n22 i23 i24 f25
   have hC : decide (i64.wrap ((bl : Int) + 1) < (bl : Int)) = false := dqf (by rw [ew]; omega)
   have hx : ∀ {P : Prop}, decide (i64.wrap ((bl : Int) + 1) < (bl : Int)) = true -> P := fun hh => by rw [hC] at hh; cases hh
   refine Ev.of rfl (er hx hx hx fun _ => af (ac (iC hc (by omega)) (aR ?_)))
   rw [e0]
   exact k1 (elV ty2 f) _ _ _ _ _ _ _ _ _ _ _ _ _ _ _ _ _ _ _ _ (fun k hk => rfl)
  exact Ev.of rfl (cX (dqt (by omega)) (ac (dqt (by omega)) (af (aJ (T0 _ _ _ _ _ _ _ _ _ _ _ _ _ _ _ _ _)))))
 ·intro i n fo hi hn h g ix iy i09 i10 i11 n12 f13 n14 n15 f16 i17 n18 n19 i20 i21 i22 n23 i24 i25 f26 hg
  rw [hcl] at hi
  have e := at' g hg i hi
  have h' := h
  rw [e] at h'
  exact Ev.of rfl (cX (dqt (by omega)) (ac (dqt (by omega)) (ac (dqt (by omega)) (aJ (h' (elV ty2 g) _ _ _ _ _ _ _ _ _ _ _ _ _ _ _ _ _ _ (fun k hk => hg k hk))))))
 ·intro i n cap fo hi h1 h2 h3' hel hs h g i09 i10 i11 n12 f13 n14 n15 f16 i17 n18 n19 i20 i21 i22 n23 i24 i25 f26 hg
  have hb2 : bl + 1 < n := by rw [← hbl]; exact h1
  have w1 := wm1 (j := n) (by omega) (by omega)
  have w2 := wm2 (j := n) (by omega) (by omega)
  have sm : ∀ k, k < n -> SmP (pq fo k) := fun k hk => (hel k hk).elim (hb _) (hsm _)
  have e3 := sdT (sm (n - 2) (by omega)) (sm (n - 1) (by omega)) (hsm (pAt c i) (uF hi))
  have hC : decide (i64.wrap ((bl : Int) + 1) < (n : Int)) = true := dqt (by rw [ew]; omega)
  have hS := sdX (fo := fo) (p := pAt c i) w1 w2 e3
  refine Ev.of rfl (er (fun _ => ⟨dqt (by rw [w2]; omega), dqt (by rw [w2]; omega), dqt (by rw [w1]; omega), dqt (by rw [w1]; omega)⟩) (fun _ _ => ac (dqt (by rw [w1]; omega)) (aR ?_)) (fun _ hf => by rw [hS, dqt hs] at hf; cases hf) (fun hf => by rw [hC] at hf; cases hf))
  rw [w1]; exact h (elV ty2 g) _ _ _ _ _ _ _ _ _ _ _ _ _ _ _ _ _ _ (fun k hk => hg k hk)
 ·intro i n cap fo hi h1 hel hs h2 h3' h g i09 i10 i11 n12 f13 n14 n15 f16 i17 n18 n19 i20 i21 i22 n23 i24 i25 f26 hg
  have nx : ∀ (_ : Unit), Ev (cL x0 x1 x2 x3 x4 x5 x6 x7 b8 x9 x10 x11 x12) (.L26 (i64.wrap ((i : Int) + 1)) (N : Int) N (bl : Int) (elV ty2 g) (n + 1) (pAt c i).1 (pAt c i).2 (av n (elV ty2 fo) fun _ => pv2 (pAt c i)) i09 i10 i11 n12 f13 n14 n15 f16 i17 n18 n19 i20 i21 i22 n23 i24 i25 f26) r := fun _ => by rw [wp1 (j := i) (by omega)]; exact h (elV ty2 g) _ _ _ _ _ _ _ _ _ _ _ _ _ _ _ _ _ _ _ _ (fun k hk => hg k hk)
  by_cases hb2 : bl + 1 < n
  ·have w1 := wm1 (j := n) (by omega) (by omega)
   have w2 := wm2 (j := n) (by omega) (by omega)
   have sm : ∀ k, k < n -> SmP (pq fo k) := fun k hk => (hel k hk).elim (hb _) (hsm _)
   have e3 := sdT (sm (n - 2) (by omega)) (sm (n - 1) (by omega)) (hsm (pAt c i) (uF hi))
   have hC : decide (i64.wrap ((bl : Int) + 1) < (n : Int)) = true := dqt (by rw [ew]; omega)
   have hS := sdX (fo := fo) (p := pAt c i) w1 w2 e3
   have hs' := hs (by first | exact hb2 | (rw [hbl]; exact hb2))
   exact Ev.of rfl (er (fun _ => ⟨dqt (by rw [w2]; omega), dqt (by rw [w2]; omega), dqt (by rw [w1]; omega), dqt (by rw [w1]; omega)⟩) (fun _ hf => by rw [hS, dqf (by omega)] at hf; cases hf) (fun _ _ => af (ac (iC h2 (by omega)) (aR (nx ())))) (fun hf => by rw [hC] at hf; cases hf))
  ·have hC : decide (i64.wrap ((bl : Int) + 1) < (n : Int)) = false := dqf (by rw [ew]; omega)
   have hx : ∀ {P : Prop}, decide (i64.wrap ((bl : Int) + 1) < (n : Int)) = true -> P := fun hh => by rw [hC] at hh; cases hh
   exact Ev.of rfl (er hx hx hx fun _ => af (ac (iC h2 (by omega)) (aR (nx ()))))
 ·intro n fo hpt g ix iy i09 i10 i11 n12 f13 n14 n15 f16 i17 n18 n19 i20 i21 i22 n23 i24 i25 f26 hg
  rw [hcl]
  obtain ⟨q1, q2, q3, q4⟩ := lL hpt (iL (.inr (by intro h; rw [h] at hcl; simp at hcl; omega)))
  have w1 := wm1 (j := n) q1 (by have := d5 (l := c) (st := []); simp only [List.length_nil] at this; omega)
  have hl := d5 (l := c) (st := [])
  simp only [List.length_nil] at hl
  have := h5 (n - 1) (elV ty2 fo) n (by omega) (by omega) q2 (by rw [List.length_tail]; omega)
  refine Ev.of rfl (cH (dqf (by omega)) (ac (dqt (by rw [w1]; omega)) (aJ ?_)))
  rw [w1]; exact this
theorem Lb (x0 x1 x2 x3 x4 x5 x6 x7 : Int) (b8 : Bool) (x9 x10 x11 x12 : Int) {r : V} {N : Nat} {f : (Nat -> List V)} (h3 : 3 <= N) (h8 : N <= 8) (hS : SSr N f) (hsm : ∀ q ∈ ptL N f, SmP q)
 (h5 : ∀ n fo cap, n <= cap -> cap <= 100 -> ptL n fo = cV (ptL N f) -> n = (cV (ptL N f)).length -> Ev (cL x0 x1 x2 x3 x4 x5 x6 x7 b8 x9 x10 x11 x12) (.L5 0 (n : Int) n (decide (2 < (n : Int))) cap fo) r) (ia : Int) (na : Nat) (nb : Nat) (ib : Int) (ic : Int) (id : Int) (nc : Nat) (ie : Int) (fz : (Nat -> List V)) : Ev (cL x0 x1 x2 x3 x4 x5 x6 x7 b8 x9 x10 x11 x12) (.L12 0 (N : Int) N f 0 (fun _ => []) ia na nb ib ic id nc ie (N : Int) fz) r := by
 generalize hc : ptL N f = c at *
 have hcl : c.length = N := by rw [← hc, bK]
 have e0 : i64.wrap (0 + 1) = ((1 : Nat) : Int) := by rw [aA (by omega) (by omega)]; rfl
 have at' : ∀ (g : (Nat -> List V)), (∀ k, k < N -> pq g k = pq f k) -> ∀ i, i < N -> pAt c i = pq g i := fun g hg i hi => by rw [hg i hi, ← hc]; exact dW hi
 have hlA := d5 (l := c) (st := [])
 simp only [List.length_nil] at hlA
 have key := iE (base := []) (c := c) (M := 8) (by simp; omega)
  (PO := fun i n fo => ∀ (g : (Nat -> List V)) (ia : Int) (na : Nat) (nb : Nat) (ib : Int) (ic : Int) (id : Int) (nc : Nat) (ie : Int) (fz : (Nat -> List V)), (∀ k, k < N -> pq g k = pq f k) -> Ev (cL x0 x1 x2 x3 x4 x5 x6 x7 b8 x9 x10 x11 x12) (.L12 (i : Int) (N : Int) N g n fo ia na nb ib ic id nc ie (N : Int) fz) r)
  (PI := fun i n cap fo => ∀ (g : (Nat -> List V)) (ia : Int) (na : Nat) (nb : Nat) (ib : Int) (ic : Int) (id : Int) (nc : Nat) (ie : Int) (fz : (Nat -> List V)), (∀ k, k < N -> pq g k = pq f k) -> Ev (cL x0 x1 x2 x3 x4 x5 x6 x7 b8 x9 x10 x11 x12) (.L14 (i : Int) (N : Int) N g n (pAt c i).1 (pAt c i).2 cap fo ia na nb ib ic id nc ie (N : Int) fz) r) ?_ ?_ ?_ ?_
 ·exact key c [] [] 0 (fun _ => []) rfl rfl rfl (Nat.le_refl _) (fun q hq => by cases hq) f ia na nb ib ic id nc ie fz (fun _ _ => rfl)
 ·intro i n fo hi hn h g ia na nb ib ic id nc ie fz hg
  rw [hcl] at hi
  have e := at' g hg i hi
  have h' := h
  rw [e] at h'
  exact Ev.of rfl (cX (dqt (by omega)) (ac (dqt (by omega)) (ac (dqt (by omega)) (aJ (h' (elV ty2 g) _ _ _ _ _ _ _ _ _ (fun k hk => hg k hk))))))
 ·intro i n cap fo hi h1 h2 h3' hel hs h g ia na nb ib ic id nc ie fz hg
  have hb2 : 0 + 1 < n := by simpa using h1
  have w1 := wm1 (j := n) (by omega) (by omega)
  have w2 := wm2 (j := n) (by omega) (by omega)
  have sm : ∀ k, k < n -> SmP (pq fo k) := fun k hk => (hel k hk).elim (fun h => by cases h) (hsm _)
  have e3 := sdT (sm (n - 2) (by omega)) (sm (n - 1) (by omega)) (hsm (pAt c i) (uF hi))
  have hC : decide (i64.wrap (0 + 1) < (n : Int)) = true := dqt (by rw [e0]; omega)
  have hS := sdX (fo := fo) (p := pAt c i) w1 w2 e3
  refine Ev.of rfl (er (fun _ => ⟨dqt (by rw [w2]; omega), dqt (by rw [w2]; omega), dqt (by rw [w1]; omega), dqt (by rw [w1]; omega)⟩) (fun _ _ => ac (dqt (by rw [w1]; omega)) (aR ?_)) (fun _ hf => by rw [hS, dqt hs] at hf; cases hf) (fun hf => by rw [hC] at hf; cases hf))
  rw [w1]; exact h (elV ty2 g) _ _ _ _ _ _ _ _ _ (fun k hk => hg k hk)
 ·intro i n cap fo hi h1 hel hs h2 h3' h g ia na nb ib ic id nc ie fz hg
  have nx : ∀ (_ : Unit), Ev (cL x0 x1 x2 x3 x4 x5 x6 x7 b8 x9 x10 x11 x12) (.L12 (i64.wrap ((i : Int) + 1)) (N : Int) N (elV ty2 g) (n + 1) (av n (elV ty2 fo) fun _ => pv2 (pAt c i)) ia na nb ib ic id nc ie (N : Int) fz) r := fun _ => by rw [wp1 (j := i) (by omega)]; exact h (elV ty2 g) _ _ _ _ _ _ _ _ _ (fun k hk => hg k hk)
  by_cases hb2 : 0 + 1 < n
  ·have w1 := wm1 (j := n) (by omega) (by omega)
   have w2 := wm2 (j := n) (by omega) (by omega)
   have sm : ∀ k, k < n -> SmP (pq fo k) := fun k hk => (hel k hk).elim (fun h => by cases h) (hsm _)
   have e3 := sdT (sm (n - 2) (by omega)) (sm (n - 1) (by omega)) (hsm (pAt c i) (uF hi))
   have hC : decide (i64.wrap (0 + 1) < (n : Int)) = true := dqt (by rw [e0]; omega)
   have hS := sdX (fo := fo) (p := pAt c i) w1 w2 e3
   have hs' := hs (by simpa using hb2)
   exact Ev.of rfl (er (fun _ => ⟨dqt (by rw [w2]; omega), dqt (by rw [w2]; omega), dqt (by rw [w1]; omega), dqt (by rw [w1]; omega)⟩) (fun _ hf => by rw [hS, dqf (by omega)] at hf; cases hf) (fun _ _ => af (ac (iC h2 (by omega)) (aR (nx ())))) (fun hf => by rw [hC] at hf; cases hf))
  ·have hC : decide (i64.wrap (0 + 1) < (n : Int)) = false := dqf (by rw [e0]; omega)
   have hx : ∀ {P : Prop}, decide (i64.wrap (0 + 1) < (n : Int)) = true -> P := fun hh => by rw [hC] at hh; cases hh
   exact Ev.of rfl (er hx hx hx fun _ => af (ac (iC h2 (by omega)) (aR (nx ()))))
 ·intro n fo hpt g ia na nb ib ic id nc ie fz hg
  rw [hcl]
  obtain ⟨q1, q2, q3, q4⟩ := lL hpt (iL (.inr (by intro h; rw [h] at hcl; simp at hcl; omega)))
  simp only [List.length_nil, Nat.zero_add, List.nil_append] at q2 q3
  have w1 := wm1 (j := n) q1 (by omega)
  have wN : i64.wrap ((((N : Int)).toNat : Int) - 1) = ((N - 1 : Nat) : Int) := by exact wm1 (by omega) (by omega)
  refine Ev.of rfl (cH (dqf (by omega)) (ac (dqt (by rw [w1]; omega)) (aJ ?_)))
  rw [w1, wN]
  have rev := th (N := N) (g := pq f) (P := fun i j f2 => ∀ (fo2 : (Nat -> List V)) (ia : Int) (na : Nat) (nb : Nat) (ib : Int) (ic : Int) (id : Int) (nc : Nat) (ie : Int) (fz : (Nat -> List V)), (∀ k, pq fo2 k = pq fo k) -> Ev (cL x0 x1 x2 x3 x4 x5 x6 x7 b8 x9 x10 x11 x12) (.L15 (j : Int) (i : Int) (N : Int) N f2 (n - 1) n fo2 ia na nb ib ic id nc ie (N : Int) fz) r) ?_ ?_
  ·exact rev N 0 (N - 1) (elV ty2 g) (by omega) (by omega) (fun k hk => by rw [if_neg (by omega)]; exact hg k hk) (elV ty2 fo) _ _ _ _ _ _ _ _ _ (fun _ => rfl)
  ·intro i j f2 hij hj h fo2 ia na nb ib ic id nc ie fz hfo2
   have v1 := wm1 (j := j) (by omega) (by omega)
   have v2 := wp1 (j := i) (by omega)
   refine Ev.of rfl (cX (dqt (by omega)) (ac (dqt (by omega)) (ac (dqt (by omega)) (ac (dqt (by omega)) (ac (dqt (by omega)) (ac (dqt (by omega)) (ac (dqt (by omega)) (ac (dqt (by omega)) (ac (dqt (by omega)) (aR ?_))))))))))
   rw [v1, v2]; exact h (elV ty2 fo2) _ _ _ _ _ _ _ _ _ (fun k => hfo2 k)
  ·intro i j f2 hij hf2 fo2 ia na nb ib ic id nc ie fz hfo2
   have hb : ptL (n - 1) fo2 = (aE [] c).tail.reverse := by rw [tQ fun k _ => hfo2 k]; exact q2
   have hrv : ptL N f2 = c.reverse := by rw [← hc]; exact yE hf2
   have hlt : (aE [] c).tail.reverse.length = n - 1 := by rw [List.length_reverse, List.length_tail, ← q3]
   have hu : cV c = (aE [] c).tail.reverse ++ (aE [] c.reverse).tail.reverse := tO (by omega)
   have hbs : ∀ q ∈ (aE [] c).tail.reverse, SmP q := fun q hq => by
    rcases gA (List.mem_of_mem_tail (List.mem_reverse.1 hq)) with h | h
    ·cases h
    ·exact hsm q h
   have fin := K7 x0 x1 x2 x3 x4 x5 x6 x7 b8 x9 x10 x11 x12 h3 h8 (r := r) (c := c.reverse) (base := (aE [] c).tail.reverse) (f := elV ty2 f2) hrv (fun q hq => hsm q (List.mem_reverse.1 hq)) hbs hlt (by omega) (fun n fo cap k1 k2 k3 k4 => h5 n fo cap k1 k2 (by rw [hu]; exact k3) (by rw [hu, List.length_append, k4]; congr 1; exact (List.length_reverse ..).symm)) (cap := n) (fo := elV ty2 fo2) (by omega) (by omega) hb
   exact Ev.of rfl (cH (dqf (by omega)) (aJ (fin _ _ _ _ _ _ _ _ _ _ _ _ _ _ _ _)))
theorem AW (x0 x1 x2 x3 x4 x5 x6 x7 : Int) (b8 : Bool) (x9 x10 x11 x12 : Int) (hm : SmP (x5, x6)) (h7 : 0 <= x7) (h8 : x7 <= 1073741824) {L : List P2} (hL : ∀ q ∈ L, SmP q) {m : Nat} {f : (Nat -> List V)} (h1 : 1 <= m) (hs : SSr m f) (hf : iA m (fun q => q ∈ L) f) {n cap : Nat} {fo : (Nat -> List V)} (k1 : n <= cap) (k2 : cap <= 100) (k3 : ptL n fo = cV (ptL m f)) (k4 : n = (cV (ptL m f)).length) :
 Ev (cL x0 x1 x2 x3 x4 x5 x6 x7 b8 x9 x10 x11 x12) (.L5 0 (n : Int) n (decide (2 < (n : Int))) cap fo) (.bool (zZ L (x5, x6) x7)) := by
 have hmem : ∀ q, q ∈ L ↔ q ∈ ptL m f := fun q => (hf q).trans lV.symm
 have hne : ptL m f ≠ [] := fun h => by have := bK m f; rw [h] at this; simp at this; omega
 have := IS x0 x1 x2 x3 x4 x5 x6 x7 b8 x9 x10 x11 x12 hm h7 h8 k1 k2 (by have := Ab (BA hs) hne; omega) (fun k hk => hL _ ((hmem _).2 (zY (by rw [← k3]; exact lV.2 ⟨k, hk, rfl⟩))))
 rw [k3, Db (BA hs) hne hmem h7] at this
 exact this
theorem HZ (x0 x1 x2 x3 x4 x5 x6 x7 : Int) (b8 : Bool) (x9 x10 x11 x12 : Int) (hb : b8 = false) (hin : zD x0 x1 x2 x3 x4 x5 x6 x7 x9 x10 x11 x12) {f : (Nat -> List V)} (hf : ptL 8 f = pl57 x0 x1 x2 x3 x4 x9 x10 x11 x12) : Ev (cL x0 x1 x2 x3 x4 x5 x6 x7 b8 x9 x10 x11 x12) (.L0 1 f) (.bool (F57 x0 x1 x2 x3 x4 x5 x6 x7 b8 x9 x10 x11 x12)) := by
 have hF : F57 x0 x1 x2 x3 x4 x5 x6 x7 b8 x9 x10 x11 x12 = zZ (pl57 x0 x1 x2 x3 x4 x9 x10 x11 x12) (x5, x6) x7 := by unfold F57; rw [hb]; rfl
 rw [hF]
 have hL := C9 hin
 have hm : SmP (x5, x6) := ⟨hin.2.2.2.2.2.1, hin.2.2.2.2.2.2.1⟩
 have h7 := hin.2.2.2.2.2.2.2.1
 have sml : ∀ {m : Nat} {f : (Nat -> List V)}, iA m (fun q => q ∈ pl57 x0 x1 x2 x3 x4 x9 x10 x11 x12) f -> ∀ q ∈ ptL m f, SmP q := fun hm q hq => hL q ((hm q).2 (lV.1 hq))
 refine JH x0 x1 x2 x3 x4 x5 x6 x7 b8 x9 x10 x11 x12 (D := fun q => q ∈ pl57 x0 x1 x2 x3 x4 x9 x10 x11 x12) hL (fun f j g hs hmm => JP x0 x1 x2 x3 x4 x5 x6 x7 b8 x9 x10 x11 x12 ?_ ?_ ?_ j g hs hmm) (fun q => by rw [← hf]; exact lV)
 ·exact fun f j g hs hmm => L9 x0 x1 x2 x3 x4 x5 x6 x7 b8 x9 x10 x11 x12 hs (sml hmm) (fun n fo cap k1 k2 k3 k4 => AW x0 x1 x2 x3 x4 x5 x6 x7 b8 x9 x10 x11 x12 hm h7.1 h7.2 hL (by omega) hs hmm k1 k2 k3 k4) j g
 ·exact fun m f h1 h3 hs hmm => AW x0 x1 x2 x3 x4 x5 x6 x7 b8 x9 x10 x11 x12 hm h7.1 h7.2 hL h1 hs hmm (n := m) (by omega) (by omega) (EW (by rw [bK]; exact h3)).symm (by rw [EW (by rw [bK]; exact h3), bK])
 ·exact fun m f i n1 n2 i1 i2 i3 n3 i4 g h3 h8 hs hmm => Lb x0 x1 x2 x3 x4 x5 x6 x7 b8 x9 x10 x11 x12 h3 (by omega) hs (sml hmm) (fun n fo cap k1 k2 k3 k4 => AW x0 x1 x2 x3 x4 x5 x6 x7 b8 x9 x10 x11 x12 hm h7.1 h7.2 hL (by omega) hs hmm k1 k2 k3 k4) i n1 n2 i1 i2 i3 n3 i4 g
theorem GD (x0 x1 x2 x3 x4 x5 x6 x7 : Int) (b8 : Bool) (x9 x10 x11 x12 : Int) (hp : b8 = false -> zD x0 x1 x2 x3 x4 x5 x6 x7 x9 x10 x11 x12) : evR (Ev (cL x0 x1 x2 x3 x4 x5 x6 x7 b8 x9 x10 x11 x12)) (m57 x0 x1 x2 x3 x4 x5 x6 x7 b8 x9 x10 x11 x12) (.bool (F57 x0 x1 x2 x3 x4 x5 x6 x7 b8 x9 x10 x11 x12)) := by
 refine aL (fun h => ao ?_) (fun h => ?_)
 ·have : F57 x0 x1 x2 x3 x4 x5 x6 x7 b8 x9 x10 x11 x12 = false := by unfold F57; rw [h]; rfl
  rw [this]; rfl
 ·have e1 : i64.wrap (0 + 1) = 1 := by rw [aA (by omega) (by omega)]; rfl
  repeat (first | refine af ?_ | refine ar ?_ | refine bz ?_ | refine bD ?_)
  refine aJ ?_
  rw [e1]
  exact HZ x0 x1 x2 x3 x4 x5 x6 x7 b8 x9 x10 x11 x12 h (hp h) rfl
theorem LW (x0 x1 x2 x3 x4 x5 x6 x7 : Int) (b8 : Bool) (x9 x10 x11 x12 : Int) (hp : b8 = false -> zD x0 x1 x2 x3 x4 x5 x6 x7 x9 x10 x11 x12) : evR (Ev (cL x0 x1 x2 x3 x4 x5 x6 x7 b8 x9 x10 x11 x12)) (m57 x0 x1 x2 x3 x4 x5 x6 x7 b8 x9 x10 x11 x12) (.bool (F57 x0 x1 x2 x3 x4 x5 x6 x7 b8 x9 x10 x11 x12)) := GD x0 x1 x2 x3 x4 x5 x6 x7 b8 x9 x10 x11 x12 hp
def C57 : a7 := mkC [.agg [.int .i64, .int .i64, .int .i64, .int .i64, .int .i64, .int .i64, .int .i64, .int .i64, .bool], .agg tp4] (fun
 | [.agg [.int _ x0, .int _ x1, .int _ x2, .int _ x3, .int _ x4, .int _ x5, .int _ x6, .int _ x7, .bool b8], .agg [.int _ x9, .int _ x10, .int _ x11, .int _ x12]] => b8 = false -> zD x0 x1 x2 x3 x4 x5 x6 x7 x9 x10 x11 x12
 | _ => False) fun
 | [.agg [.int _ x0, .int _ x1, .int _ x2, .int _ x3, .int _ x4, .int _ x5, .int _ x6, .int _ x7, .bool b8], .agg [.int _ x9, .int _ x10, .int _ x11, .int _ x12]] => .bool (F57 x0 x1 x2 x3 x4 x5 x6 x7 b8 x9 x10 x11 x12)
 | _ => .any
theorem LO : (vP C57).Ok Tryz.prog 57 := mkE G6 Tryz.func57 (by kernel_rfl) fun ds hp => rfs (Kg ..) (LW _ _ _ _ _ _ _ _ _ _ _ _ _ hp)
end
end Go.Dx
namespace Go.Dx
open Go.Sx
noncomputable section
section
variable {a b c m : P2} {r : Int}
theorem Gr {L : List P2} (h : sK (fun q => q ∈ L) m r) : zZ L m r = true := @dqt _ (Classical.propDecidable _) h
end
end
end Go.Dx
namespace Go.Dx
open Go.IntKind (i64 u64 u8)
open Go.Sx Go.Proofs
noncomputable section
def Eu : bj := (57, .con C57) :: (131, .con AL) :: ER
theorem F6 : be Tryz.prog eqs its Eu := .con LO (.con Bz (FH))
attribute [local irreducible] Gx F7
end
end Go.Dx
namespace Go.Dx
open Go.Sx
noncomputable section
theorem xL {x y a z w : Int} (h : yt x y a z w = 0) : (-100000 <= x /\ x <= 100000) /\ (-100000 <= y /\ y <= 100000) /\ (1 <= a /\ a <= 20000) /\ 0 <= z /\ z < w /\ w <= 1000 := by
 unfold yt at h
 cases hp : fx x y with
 | false => rw [hp] at h; cases h
 | true =>
   rw [hp] at h
   simp only [Bool.not_true, Bool.not_false, cond_true] at h
   cases hf : eK a 1 20000 with
   | false => rw [hf] at h; cases h
   | true =>
     rw [hf] at h
     have ha := fM hf
     have hq := qS hp
     by_cases h1 : z < 0
     ·simp [h1] at h
     ·by_cases h2 : w <= z
      ·simp [h1, h2] at h
      ·by_cases h3 : 1000 < w
       ·simp [h1, h2, h3] at h
       ·exact ⟨hq.1, hq.2, ha, by omega, by omega, by omega⟩
theorem Fj {x y h dx dy : Int} (hc : CX x y h dx dy = 0) : (-100000 <= x /\ x <= 100000) /\ (-100000 <= y /\ y <= 100000) /\ (1 <= h /\ h <= 200) := by
 have hc' : (bif bif bif bif !fx x y then true else !eK h 1 200 then true else !eK dx (-1000) 1000 then true else !eK dy (-1000) 1000 then 7 else bif bif dx == 0 then dy == 0 else false then 2 else (0 : Int)) = 0 := hc
 cases hp : fx x y with
 | false => rw [hp] at hc'; cases hc'
 | true =>
   rw [hp] at hc'
   cases hf : eK h 1 200 with
   | false => rw [hf] at hc'; cases hc'
   | true => exact ⟨(qS hp).1, (qS hp).2, fM hf⟩
theorem Fw {n6 : Nat} {f6 : Nat -> List V} {i : Nat} (h : cC n6 f6 i = 0) : CX (jv1 (f6 i)) (jv2 (f6 i)) (jv3 (f6 i)) (jv4 (f6 i)) (jv5 (f6 i)) = 0 := by
 have h' : F73 n6 (elV tyC f6) (i : Int) = 0 := h
 unfold F73 at h'
 simp only [Int.toNat_natCast] at h'
 cases hn : y7 (sv (hdV (elV tyC f6 i))) with
 | false => rw [hn] at h'; cases h'
 | true =>
   rw [hn, Bool.not_true, cond_false] at h'
   cases hd : exB i (fun k => (sv (hdV (elV tyC f6 k))).toList == (sv (hdV (elV tyC f6 i))).toList) with
   | true => rw [hd] at h'; cases h'
   | false => rw [hd, cond_false] at h'; exact h'
section
variable {X Y h tx ty R lo hi x9 x10 x11 x12 px py : Int}
structure TC (X Y h tx ty R lo hi : Int) : Prop where
 X' : -100000 <= X /\ X <= 100000
 Y' : -100000 <= Y /\ Y <= 100000
 h' : 1 <= h /\ h <= 200
 tx' : -100000 <= tx /\ tx <= 100000
 ty' : -100000 <= ty /\ ty <= 100000
 R' : 1 <= R /\ R <= 20000
 lo' : 0 <= lo /\ lo < hi /\ hi <= 1000
theorem TC.vals (t : TC X Y h tx ty R lo hi) : gx h hi = max 0 (h - hi) /\ BW h hi = max 0 (h - hi) /\ gM h lo = h - lo /\ BB h lo = h - lo /\ gL h tx = h * tx /\ Cm h tx = h * tx /\ gH h ty = h * ty /\ Bm h ty = h * ty /\ gC h R = h * R /\ AF h R = h * R /\ sm (h * tx) /\ sm (h * ty) /\ 0 <= h * R /\ h * R <= 1073741824 := by
 obtain ⟨_, _, hh, h1, h2, h3, h4⟩ := t
 have k1 := kq (x := h) (y := tx) (A := 200) (B := 100000) (by omega) (by omega) (by omega) (by omega)
 have k2 := kq (x := h) (y := ty) (A := 200) (B := 100000) (by omega) (by omega) (by omega) (by omega)
 have k3 := kq (x := h) (y := R) (A := 200) (B := 20000) (by omega) (by omega) (by omega) (by omega)
 have k4 := imn (show 0 <= h by omega) (show 0 <= R by omega)
 unfold gx BW gM BB gL gH gC cq cr Cm Bm AF
 rw [Int.mul_comm R h, aA (x := h - hi) (by omega) (by omega), aA (x := h - min hi h) (by omega) (by omega), aA (x := h - lo) (by omega) (by omega), aA (x := h * tx) (by omega) (by omega), aA (x := h * ty) (by omega) (by omega), aA (x := h * R) (by omega) (by omega)]
 unfold sm
 refine ⟨rfl, by omega, rfl, rfl, rfl, rfl, rfl, rfl, rfl, rfl, by omega, by omega, k4, by omega⟩
theorem TC.in57 (t : TC X Y h tx ty R lo hi) (hb : eq h lo = false) (h9 : -100000 <= x9 /\ x9 <= 100000) (h10 : -100000 <= x10 /\ x10 <= 100000) (h11 : -100000 <= x11 /\ x11 <= 100000) (h12 : -100000 <= x12 /\ x12 <= 100000) : zD X Y h (gx h hi) (gM h lo) (gL h tx) (gH h ty) (gC h R) x9 x10 x11 x12 := by
 obtain ⟨e1, _, e2, _, e3, _, e4, _, e5, _, s1, s2, s3, s4⟩ := t.vals
 have := t.h'; have := t.lo'
 unfold eq at hb
 have hb := of_decide_eq_false hb
 rw [e1, e2, e3, e4, e5]
 exact ⟨t.X', t.Y', by omega, by omega, by omega, s1, s2, ⟨s3, s4⟩, h9, h10, h11, h12⟩
end
def fE (d t : Nat -> Bool) : Nat -> Int
 | 0 => 0
 | k + 1 => bif d k then 2 else bif t k then max (fE d t k) 1 else fE d t k
def r9 (d t : Nat -> Bool) (n : Nat) : Int := bif exB n d then 2 else bif exB n t then 1 else 0
theorem iH (n : Nat) (p : Nat -> Bool) : exB (n + 1) p = (exB n p || p n) := by
 cases h : exB (n + 1) p with
 | true =>
   obtain ⟨i, hi, hp⟩ := kz.1 h
   by_cases e : i = n
   ·rw [← e, hp]; simp
   ·rw [bN i (by omega) hp]; rfl
 | false =>
   have h1 : exB n p = false := by
    cases h2 : exB n p with
    | false => rfl
    | true => obtain ⟨i, hi, hp⟩ := kz.1 h2; rw [bN i (by omega) hp] at h; cases h
   have h2 : p n = false := by
    cases h2 : p n with
    | false => rfl
    | true => rw [bN n (by omega) h2] at h; cases h
   rw [h1, h2]; rfl
theorem oU (d t : Nat -> Bool) : ∀ n, fE d t n = r9 d t n
 | 0 => rfl
 | n + 1 => by
   have ih := oU d t n
   unfold r9 at *
   simp only [fE]
   rw [iH, iH, ih]
   cases exB n d <;> cases exB n t <;> cases d n <;> cases t n <;> rfl
end
end Go.Dx
namespace Go.Dx
open Go.IntKind (i64 u64 u8)
open Go.Sx Go.Proofs
noncomputable section
def yw : bj := Eu
theorem As : be Tryz.prog eqs its yw := F6
attribute [local irreducible] F44 rE oP
theorem xv {n0 : Nat} {f0 : Nat -> List V} {n2 : Nat} {f2 : Nat -> List V} {n4 : Nat} {f4 : Nat -> List V} {n6 : Nat} {f6 : Nat -> List V} {x8 : Int} (h : ix1 (bt n0 (elV tyR f0) n2 (elV tyT f2) n4 (elV tyF f4) n6 (elV tyC f6)) x8 n6 = 0) : (0 <= x8 /\ x8 < (n6 : Int)) /\ ∀ i, i < n2 -> TC (jv1 (f6 x8.toNat)) (jv2 (f6 x8.toNat)) (jv3 (f6 x8.toNat)) (jv0 (f2 i)) (jv1 (f2 i)) (jv2 (f2 i)) (jv3 (f2 i)) (jv4 (f2 i)) := by
 obtain ⟨h1, h2, h3⟩ := lR h
 have hv := jN h1
 refine ⟨⟨h2, h3⟩, fun i hi => ?_⟩
 have hc := Fj (Fw (f6 := elV tyC f6) (hv.cl x8.toNat (by omega)))
 have ht := xL (hv.tr i hi)
 exact ⟨hc.1, hc.2.1, hc.2.2, ht.1, ht.2.1, ht.2.2.1, ht.2.2.2⟩
inductive S17 where
 | L0 (ia0 ia1 : Int)
def Jf (n0 : Nat) (f0 : FnV) (n2 : Nat) (f2 : FnV) (n4 : Nat) (f4 : FnV) (n6 : Nat) (f6 : FnV) (x8 x9 x10 x11 x12 : Int) : S17 -> Env × List O × Option Ex
 | .L0 ia0 ia1 => ([(31, vi ia0), (30, vi (↑n2 : Int)), (29, V.sl n2 (elV tyT f2)), (9, vi ia1), (5, V.pl 0 0), (3, V.pl 1 0), (1, vi x8)], [O.cells [vi x9, vi x10, vi x11, vi x12] 29, O.cells [V.sl n0 (elV tyR f0), V.sl n2 (elV tyT f2), V.sl n4 (elV tyF f4), V.sl n6 (elV tyC f6)] 27], none)
def K6 : S17 -> JJ
 | .L0 ia0 ia1 => (0, [])
def IZ (n0 : Nat) (f0 : FnV) (n2 : Nat) (f2 : FnV) (n4 : Nat) (f4 : FnV) (n6 : Nat) (f6 : FnV) (x8 x9 x10 x11 x12 : Int) : T (ca JJ) := bk JJ yw u0 s17 [scV n0 f0 n2 f2 n4 f4 n6 f6, vi x8, V.agg [vi x9, vi x10, vi x11, vi x12]]
def BU (n0 : Nat) (f0 : FnV) (n2 : Nat) (f2 : FnV) (n4 : Nat) (f4 : FnV) (n6 : Nat) (f6 : FnV) (x8 x9 x10 x11 x12 : Int) (cx : List Cx) : Lp JJ := lpT (atT (IZ n0 f0 n2 f2 n4 f4 n6 f6 x8 x9 x10 x11 x12) [false, false])
def KI (n0 : Nat) (f0 : FnV) (n2 : Nat) (f2 : FnV) (n4 : Nat) (f4 : FnV) (n6 : Nat) (f6 : FnV) (x8 x9 x10 x11 x12 : Int) : JJ -> Lp JJ
 | (0, cx) => BU n0 f0 n2 f2 n4 f4 n6 f6 x8 x9 x10 x11 x12 cx
 | (_, cx) => BU n0 f0 n2 f2 n4 f4 n6 f6 x8 x9 x10 x11 x12 cx
def D17 (n0 : Nat) (f0 : FnV) (n2 : Nat) (f2 : FnV) (n4 : Nat) (f4 : FnV) (n6 : Nat) (f6 : FnV) (x8 x9 x10 x11 x12 : Int) : LD JJ S17 := ⟨K6, KI n0 f0 n2 f2 n4 f4 n6 f6 x8 x9 x10 x11 x12, Jf n0 f0 n2 f2 n4 f4 n6 f6 x8 x9 x10 x11 x12⟩
def CK (n0 : Nat) (f0 : FnV) (n2 : Nat) (f2 : FnV) (n4 : Nat) (f4 : FnV) (n6 : Nat) (f6 : FnV) (x8 x9 x10 x11 x12 : Int) : S17 -> RT S17
 | .L0 ia0 ia1 => .br (decide (ia0 < (↑n2 : Int))) (.ob (decide (0 <= ia0 /\ ia0 < (↑n2 : Int))) (.ob (decide (0 <= x8 /\ x8 < (↑n6 : Int))) (.obc (.obt (.obc (.obt (.obc (.obt (.br (!tW 4 (elV tp2 (bM [vi x9, vi x10, vi x11, vi x10, vi x11, vi x12, vi x9, vi x12] 0 2)) (jv1 (f6 x8.toNat)) (jv2 (f6 x8.toNat)) (jv3 (f6 x8.toNat)) (gx (jv3 (f6 x8.toNat)) (jv4 (f2 ia0.toNat))) (gM (jv3 (f6 x8.toNat)) (jv3 (f2 ia0.toNat))) (gL (jv3 (f6 x8.toNat)) (jv0 (f2 ia0.toNat))) (gH (jv3 (f6 x8.toNat)) (jv1 (f2 ia0.toNat))) (gC (jv3 (f6 x8.toNat)) (jv2 (f2 ia0.toNat))) (eq (jv3 (f6 x8.toNat)) (jv3 (f2 ia0.toNat)))) (.next [some (some 0), some (some 1)] (S17.L0 (i64.wrap (ia0 + 1)) (2)) []) (.obp (eq (jv3 (f6 x8.toNat)) (jv3 (f2 ia0.toNat)) = false -> ((-100000 : Int) <= jv1 (f6 x8.toNat) /\ jv1 (f6 x8.toNat) <= (100000 : Int)) /\ ((-100000 : Int) <= jv2 (f6 x8.toNat) /\ jv2 (f6 x8.toNat) <= (100000 : Int)) /\ ((0 : Int) <= jv3 (f6 x8.toNat) /\ jv3 (f6 x8.toNat) <= (200 : Int)) /\ ((0 : Int) <= gx (jv3 (f6 x8.toNat)) (jv4 (f2 ia0.toNat)) /\ gx (jv3 (f6 x8.toNat)) (jv4 (f2 ia0.toNat)) <= (200 : Int)) /\ ((0 : Int) <= gM (jv3 (f6 x8.toNat)) (jv3 (f2 ia0.toNat)) /\ gM (jv3 (f6 x8.toNat)) (jv3 (f2 ia0.toNat)) <= (200 : Int)) /\ ((-536870912 : Int) <= gL (jv3 (f6 x8.toNat)) (jv0 (f2 ia0.toNat)) /\ gL (jv3 (f6 x8.toNat)) (jv0 (f2 ia0.toNat)) <= (536870912 : Int)) /\ ((-536870912 : Int) <= gH (jv3 (f6 x8.toNat)) (jv1 (f2 ia0.toNat)) /\ gH (jv3 (f6 x8.toNat)) (jv1 (f2 ia0.toNat)) <= (536870912 : Int)) /\ ((0 : Int) <= gC (jv3 (f6 x8.toNat)) (jv2 (f2 ia0.toNat)) /\ gC (jv3 (f6 x8.toNat)) (jv2 (f2 ia0.toNat)) <= (1073741824 : Int)) /\ ((-100000 : Int) <= x9 /\ x9 <= (100000 : Int)) /\ ((-100000 : Int) <= x10 /\ x10 <= (100000 : Int)) /\ ((-100000 : Int) <= x11 /\ x11 <= (100000 : Int)) /\ (-100000 : Int) <= x12 /\ x12 <= (100000 : Int)) (.obt (.br (F57 (jv1 (f6 x8.toNat)) (jv2 (f6 x8.toNat)) (jv3 (f6 x8.toNat)) (gx (jv3 (f6 x8.toNat)) (jv4 (f2 ia0.toNat))) (gM (jv3 (f6 x8.toNat)) (jv3 (f2 ia0.toNat))) (gL (jv3 (f6 x8.toNat)) (jv0 (f2 ia0.toNat))) (gH (jv3 (f6 x8.toNat)) (jv1 (f2 ia0.toNat))) (gC (jv3 (f6 x8.toNat)) (jv2 (f2 ia0.toNat))) (eq (jv3 (f6 x8.toNat)) (jv3 (f2 ia0.toNat))) x9 x10 x11 x12) (.next [some (some 0), some (some 1)] (S17.L0 (i64.wrap (ia0 + 1)) (max ia1 1)) []) (.next [some (some 0), some (some 1)] (S17.L0 (i64.wrap (ia0 + 1)) (ia1)) []))))))))))))) (.ret (V.tup [vi ia1, vi 0]))
def m17 (n0 : Nat) (f0 : FnV) (n2 : Nat) (f2 : FnV) (n4 : Nat) (f4 : FnV) (n6 : Nat) (f6 : FnV) (x8 x9 x10 x11 x12 : Int) : RT S17 := .asm (true = true -> n6 <= 9223372036854775807) (.obp (((∀ (i : Nat), i < n0 -> (sv (hdV (f0 i))).size <= (9223372036854775807 : Nat)) /\ ∀ (i : Nat), i < n6 -> (sv (hdV (f6 i))).size <= (9223372036854775807 : Nat)) /\ (0 : Nat) = (0 : Nat) /\ (2 : Nat) <= (100 : Nat)) (.obt (.br (F44 n0 (elV tyR f0) n2 (elV tyT f2) n4 (elV tyF f4) n6 (elV tyC f6) 2 (elV tp1 (bM [vi x8, vi (↑n6 : Int)] 0 1)) != 0) (.ret (V.tup [vi 0, vi (F44 n0 (elV tyR f0) n2 (elV tyT f2) n4 (elV tyF f4) n6 (elV tyC f6) 2 (elV tp1 (bM [vi x8, vi (↑n6 : Int)] 0 1)))])) (.obc (.obt (.br (lc x9 x10 x11 x12) (.ret (V.tup [vi 0, vi 7])) (.asm (true = true -> n2 <= 9223372036854775807) (.enter [some (some 1), some (some 0)] (S17.L0 (0) (0)) []))))))))
theorem If (n0 : Nat) (f0 : FnV) (n2 : Nat) (f2 : FnV) (n4 : Nat) (f4 : FnV) (n6 : Nat) (f6 : FnV) (x8 x9 x10 x11 x12 : Int) : jF yw u0 (D17 n0 f0 n2 f2 n4 f4 n6 f6 x8 x9 x10 x11 x12) (IZ n0 f0 n2 f2 n4 f4 n6 f6 x8 x9 x10 x11 x12) (m17 n0 f0 n2 f2 n4 f4 n6 f6 x8 x9 x10 x11 x12) (CK n0 f0 n2 f2 n4 f4 n6 f6 x8 x9 x10 x11 x12) := ⟨⟨by kernel_rfl, by kernel_rfl⟩, fun s => by cases s <;> exact ⟨by kernel_rfl, by kernel_rfl⟩⟩
def d17 (n0 : Nat) (f0 : FnV) (n2 : Nat) (f2 : FnV) (n4 : Nat) (f4 : FnV) (n6 : Nat) (f6 : FnV) (x8 x9 x10 x11 x12 : Int) (ii : Nat) : Bool := !tW 4 (elV tp2 (bM [vi x9, vi x10, vi x11, vi x10, vi x11, vi x12, vi x9, vi x12] 0 2)) (jv1 (f6 x8.toNat)) (jv2 (f6 x8.toNat)) (jv3 (f6 x8.toNat)) (gx (jv3 (f6 x8.toNat)) (jv4 (f2 ii))) (gM (jv3 (f6 x8.toNat)) (jv3 (f2 ii))) (gL (jv3 (f6 x8.toNat)) (jv0 (f2 ii))) (gH (jv3 (f6 x8.toNat)) (jv1 (f2 ii))) (gC (jv3 (f6 x8.toNat)) (jv2 (f2 ii))) (eq (jv3 (f6 x8.toNat)) (jv3 (f2 ii)))
def t17 (n0 : Nat) (f0 : FnV) (n2 : Nat) (f2 : FnV) (n4 : Nat) (f4 : FnV) (n6 : Nat) (f6 : FnV) (x8 x9 x10 x11 x12 : Int) (ii : Nat) : Bool := F57 (jv1 (f6 x8.toNat)) (jv2 (f6 x8.toNat)) (jv3 (f6 x8.toNat)) (gx (jv3 (f6 x8.toNat)) (jv4 (f2 ii))) (gM (jv3 (f6 x8.toNat)) (jv3 (f2 ii))) (gL (jv3 (f6 x8.toNat)) (jv0 (f2 ii))) (gH (jv3 (f6 x8.toNat)) (jv1 (f2 ii))) (gC (jv3 (f6 x8.toNat)) (jv2 (f2 ii))) (eq (jv3 (f6 x8.toNat)) (jv3 (f2 ii))) x9 x10 x11 x12
def bL (n0 : Nat) (f0 : FnV) (n2 : Nat) (f2 : FnV) (n4 : Nat) (f4 : FnV) (n6 : Nat) (f6 : FnV) (x8 x9 x10 x11 x12 : Int) : Int := bif F44 n0 (elV tyR f0) n2 (elV tyT f2) n4 (elV tyF f4) n6 (elV tyC f6) 2 (elV tp1 (bM [vi x8, vi (↑n6 : Int)] 0 1)) != 0 then 0 else bif lc x9 x10 x11 x12 then 0 else fE (d17 n0 f0 n2 f2 n4 f4 n6 f6 x8 x9 x10 x11 x12) (t17 n0 f0 n2 f2 n4 f4 n6 f6 x8 x9 x10 x11 x12) n2
def kR (n0 : Nat) (f0 : FnV) (n2 : Nat) (f2 : FnV) (n4 : Nat) (f4 : FnV) (n6 : Nat) (f6 : FnV) (x8 x9 x10 x11 x12 : Int) : Int := bif F44 n0 (elV tyR f0) n2 (elV tyT f2) n4 (elV tyF f4) n6 (elV tyC f6) 2 (elV tp1 (bM [vi x8, vi (↑n6 : Int)] 0 1)) != 0 then F44 n0 (elV tyR f0) n2 (elV tyT f2) n4 (elV tyF f4) n6 (elV tyC f6) 2 (elV tp1 (bM [vi x8, vi (↑n6 : Int)] 0 1)) else bif lc x9 x10 x11 x12 then 7 else 0
theorem c17 (n0 : Nat) (f0 : FnV) (n2 : Nat) (f2 : FnV) (n4 : Nat) (f4 : FnV) (n6 : Nat) (f6 : FnV) (x8 x9 x10 x11 x12 : Int) (hx : 0 <= x8 /\ x8 < (n6 : Int)) (hn : n2 <= 9223372036854775807) (hin : ∀ i, i < n2 -> TC (jv1 (f6 x8.toNat)) (jv2 (f6 x8.toNat)) (jv3 (f6 x8.toNat)) (jv0 (f2 i)) (jv1 (f2 i)) (jv2 (f2 i)) (jv3 (f2 i)) (jv4 (f2 i))) (hp : (-100000 <= x9 /\ x9 <= 100000) /\ (-100000 <= x10 /\ x10 <= 100000) /\ (-100000 <= x11 /\ x11 <= 100000) /\ (-100000 <= x12 /\ x12 <= 100000)) :
 ∀ i, i <= n2 -> Ev (CK n0 f0 n2 f2 n4 f4 n6 f6 x8 x9 x10 x11 x12) (.L0 (i : Int) (fE (d17 n0 f0 n2 f2 n4 f4 n6 f6 x8 x9 x10 x11 x12) (t17 n0 f0 n2 f2 n4 f4 n6 f6 x8 x9 x10 x11 x12) i)) (.tup [.int .i64 (fE (d17 n0 f0 n2 f2 n4 f4 n6 f6 x8 x9 x10 x11 x12) (t17 n0 f0 n2 f2 n4 f4 n6 f6 x8 x9 x10 x11 x12) n2), .int .i64 0]) := by
 refine dM fun i hi ih => ?_
 by_cases hlt : i < n2
 ·have ih := ih hlt
  have hw := yG hlt hn
  refine Ev.of rfl (cX (dqt (by omega)) (ac (dqt (by omega)) (ac (dqt hx) (ar (af (ar (af (ar (af (aL (fun h => aR ?_) (fun h => aO ?_ (af (aL (fun h2 => aR ?_) (fun h2 => aR ?_))))))))))))))
  ·rw [hw]
   have e : fE (d17 n0 f0 n2 f2 n4 f4 n6 f6 x8 x9 x10 x11 x12) (t17 n0 f0 n2 f2 n4 f4 n6 f6 x8 x9 x10 x11 x12) (i + 1) = 2 := by simp only [fE]; rw [show d17 n0 f0 n2 f2 n4 f4 n6 f6 x8 x9 x10 x11 x12 i = true from h]; rfl
   rw [e] at ih; exact ih
  ·exact fun hb => (hin i hlt).in57 hb hp.1 hp.2.1 hp.2.2.1 hp.2.2.2
  ·rw [hw]
   have e : fE (d17 n0 f0 n2 f2 n4 f4 n6 f6 x8 x9 x10 x11 x12) (t17 n0 f0 n2 f2 n4 f4 n6 f6 x8 x9 x10 x11 x12) (i + 1) = max (fE (d17 n0 f0 n2 f2 n4 f4 n6 f6 x8 x9 x10 x11 x12) (t17 n0 f0 n2 f2 n4 f4 n6 f6 x8 x9 x10 x11 x12) i) 1 := by simp only [fE]; rw [show d17 n0 f0 n2 f2 n4 f4 n6 f6 x8 x9 x10 x11 x12 i = false from h, show t17 n0 f0 n2 f2 n4 f4 n6 f6 x8 x9 x10 x11 x12 i = true from h2]; rfl
   rw [e] at ih; exact ih
  ·rw [hw]
   have e : fE (d17 n0 f0 n2 f2 n4 f4 n6 f6 x8 x9 x10 x11 x12) (t17 n0 f0 n2 f2 n4 f4 n6 f6 x8 x9 x10 x11 x12) (i + 1) = fE (d17 n0 f0 n2 f2 n4 f4 n6 f6 x8 x9 x10 x11 x12) (t17 n0 f0 n2 f2 n4 f4 n6 f6 x8 x9 x10 x11 x12) i := by simp only [fE]; rw [show d17 n0 f0 n2 f2 n4 f4 n6 f6 x8 x9 x10 x11 x12 i = false from h, show t17 n0 f0 n2 f2 n4 f4 n6 f6 x8 x9 x10 x11 x12 i = false from h2]; rfl
   rw [e] at ih; exact ih
 ·have e : i = n2 := by omega
  subst e
  exact Ev.of rfl (cH (dqf (by omega)) (ao rfl))
theorem F1 (n0 : Nat) (f0 : FnV) (n2 : Nat) (f2 : FnV) (n4 : Nat) (f4 : FnV) (n6 : Nat) (f6 : FnV) (x8 x9 x10 x11 x12 : Int) (hp : cY n0 f0 /\ cY n6 f6) : evR (Ev (CK n0 f0 n2 f2 n4 f4 n6 f6 x8 x9 x10 x11 x12)) (m17 n0 f0 n2 f2 n4 f4 n6 f6 x8 x9 x10 x11 x12) (.tup [.int .i64 (bL n0 f0 n2 f2 n4 f4 n6 f6 x8 x9 x10 x11 x12), .int .i64 (kR n0 f0 n2 f2 n4 f4 n6 f6 x8 x9 x10 x11 x12)]) := dF fun h6 => aO ⟨hp, rfl, by decide⟩ (af (aL (fun h => ao (by unfold bL kR; rw [h]; rfl)) (fun h => ar (af (aL (fun h2 => ao (by unfold bL kR; rw [h, h2]; rfl)) (fun h2 => dF fun hn => aJ (by
 have e0 : bL n0 f0 n2 f2 n4 f4 n6 f6 x8 x9 x10 x11 x12 = fE (d17 n0 f0 n2 f2 n4 f4 n6 f6 x8 x9 x10 x11 x12) (t17 n0 f0 n2 f2 n4 f4 n6 f6 x8 x9 x10 x11 x12) n2 := by unfold bL; rw [h, h2]; rfl
 have e1 : kR n0 f0 n2 f2 n4 f4 n6 f6 x8 x9 x10 x11 x12 = 0 := by unfold kR; rw [h, h2]; rfl
 rw [e0, e1]
 have hc := s8 (n0 := n0) (f0 := f0) (n2 := n2) (f2 := f2) (n4 := n4) (f4 := f4) (n6 := n6) (f6 := f6) (i := x8) (m := n6) (fun _ => h6)
 have hz : ix1 (bt n0 (elV tyR f0) n2 (elV tyT f2) n4 (elV tyF f4) n6 (elV tyC f6)) x8 n6 = 0 := by rw [← hc]; simpa using h
 obtain ⟨hx, hin⟩ := xv hz
 rw [ko] at h2
 have hq := lM (tnT h2)
 exact c17 _ _ _ _ _ _ _ _ _ _ _ _ _ hx hn hin ⟨hq.1, hq.2.1, hq.2.2.1, hq.2.2.2.1⟩ 0 (Nat.zero_le _))))))))
theorem LQ (n0 : Nat) (f0 : FnV) (n2 : Nat) (f2 : FnV) (n4 : Nat) (f4 : FnV) (n6 : Nat) (f6 : FnV) (x8 x9 x10 x11 x12 : Int) (hp : cY n0 (elV tyR f0) /\ cY n6 (elV tyC f6)) : evR (Ev (CK n0 f0 n2 f2 n4 f4 n6 f6 x8 x9 x10 x11 x12)) (m17 n0 f0 n2 f2 n4 f4 n6 f6 x8 x9 x10 x11 x12) (.tup [.int .i64 (bL n0 (elV tyR f0) n2 (elV tyT f2) n4 (elV tyF f4) n6 (elV tyC f6) x8 x9 x10 x11 x12), .int .i64 (kR n0 (elV tyR f0) n2 (elV tyT f2) n4 (elV tyF f4) n6 (elV tyC f6) x8 x9 x10 x11 x12)]) := F1 n0 f0 n2 f2 n4 f4 n6 f6 x8 x9 x10 x11 x12 hp
def C17 : a7 := mkC [.agg [.sl tyR, .sl tyT, .sl tyF, .sl tyC], .int .i64, .agg tp4] (fun
 | [.agg [.sl n0 f0, .sl n2 f2, .sl n4 f4, .sl n6 f6], .int _ x8, .agg [.int _ x9, .int _ x10, .int _ x11, .int _ x12]] => cY n0 f0 /\ cY n6 f6
 | _ => False) fun
 | [.agg [.sl n0 f0, .sl n2 f2, .sl n4 f4, .sl n6 f6], .int _ x8, .agg [.int _ x9, .int _ x10, .int _ x11, .int _ x12]] => .tup [.int .i64 (bL n0 f0 n2 f2 n4 f4 n6 f6 x8 x9 x10 x11 x12), .int .i64 (kR n0 f0 n2 f2 n4 f4 n6 f6 x8 x9 x10 x11 x12)]
 | _ => .any
theorem Ly : (vP C17).Ok Tryz.prog 17 := mkE As Tryz.func17 (by kernel_rfl) fun ds hp => rfs (If ..) (LQ _ _ _ _ _ _ _ _ _ _ _ _ _ hp)
end
end Go.Dx
namespace Go.Dx
open Go.IntKind (i64 u64 u8)
open Go.Sx
noncomputable section
section
variable {n0 : Nat} {f0 : Nat -> List V} {n2 : Nat} {f2 : Nat -> List V} {n4 : Nat} {f4 : Nat -> List V} {n6 : Nat} {f6 : Nat -> List V}
theorem KZ {p : Nat -> Bool} : (!exB 4 fun i => !p i) = (p 0 && (p 1 && (p 2 && p 3))) := by
 have e : exB 4 (fun i => !p i) = (!p 0 || (!p 1 || (!p 2 || !p 3))) := by
  rw [iH, iH, iH, iH]
  rw [show exB 0 (fun i => !p i) = false from rfl]
  cases p 0 <;> cases p 1 <;> cases p 2 <;> cases p 3 <;> rfl
 rw [e]
 cases p 0 <;> cases p 1 <;> cases p 2 <;> cases p 3 <;> rfl
end
end
end Go.Dx
namespace Go.Dx
section
variable {n0 n1 Mx My r vx vy k X0 Y0 X1 Y1 : Int}
def Sh (n0 n1 Mx My r vx vy k : Int) : Prop := ∃ N W, 0 < W /\ n0 * W <= N /\ N <= n1 * W /\ q2 (W * k * Mx - N * vx) (W * k * My - N * vy) <= (W * k * r) * (W * k * r)
def Tou (n0 n1 Mx My r X0 Y0 X1 Y1 : Int) : Prop := ∃ vx vy k, 0 < k /\ (k * X0 <= vx /\ vx <= k * X1) /\ (k * Y0 <= vy /\ vy <= k * Y1) /\ Sh n0 n1 Mx My r vx vy k
theorem Sh.scale {l : Int} (hl : 0 < l) : Sh n0 n1 Mx My r (l * vx) (l * vy) (l * k) ↔ Sh n0 n1 Mx My r vx vy k := by
 have key : ∀ N W : Int, q2 (W * (l * k) * Mx - N * (l * vx)) (W * (l * k) * My - N * (l * vy)) = l * l * q2 (W * k * Mx - N * vx) (W * k * My - N * vy) := fun N W => by rw [← dN]; congr 1 <;> grind
 have key2 : ∀ W : Int, W * (l * k) * r * (W * (l * k) * r) = l * l * (W * k * r * (W * k * r)) := fun W => by grind
 constructor
 ·rintro ⟨N, W, h1, h2, h3, h4⟩
  exact ⟨N, W, h1, h2, h3, by rw [key, key2] at h4; exact g8 hl h4⟩
 ·rintro ⟨N, W, h1, h2, h3, h4⟩
  exact ⟨N, W, h1, h2, h3, by rw [key, key2]; exact iml h4 (sq0 l)⟩
theorem Sh.grow {m0 m1 s : Int} (h0 : m0 <= n0) (h1 : n1 <= m1) (hr : 0 <= r) (hs : r <= s) (hk : 0 < k) (h : Sh n0 n1 Mx My r vx vy k) : Sh m0 m1 Mx My s vx vy k := by
 obtain ⟨N, W, a1, a2, a3, a4⟩ := h
 have hW : 0 <= W := Int.le_of_lt a1
 have hWk : 0 <= W * k := imn hW (Int.le_of_lt hk)
 refine ⟨N, W, a1, Int.le_trans (Int.mul_le_mul_of_nonneg_right h0 hW) a2, Int.le_trans a3 (Int.mul_le_mul_of_nonneg_right h1 hW), Int.le_trans a4 ?_⟩
 exact Int.mul_le_mul (iml hs hWk) (iml hs hWk) (imn hWk hr) (imn hWk (Int.le_trans hr hs))
theorem sh0 (h0 : n0 <= 0) (h1 : 0 <= n1) (hk : 0 < k) (h : q2 Mx My <= r * r) : Sh n0 n1 Mx My r vx vy k := by
 refine ⟨0, 1, by omega, by omega, by omega, ?_⟩
 have e : q2 (1 * k * Mx - 0 * vx) (1 * k * My - 0 * vy) = k * k * q2 Mx My := by rw [← dN]; congr 1 <;> grind
 have e2 : 1 * k * r * (1 * k * r) = k * k * (r * r) := by grind
 rw [e, e2]
 exact iml h (sq0 k)
theorem ya {W N : Int} (hn : 0 <= n0) (hW : 0 < W) (h1 : n0 * W <= N) (h2 : N <= n1 * W) (hN : N = 0) (h : q2 (W * Mx - N * vx) (W * My - N * vy) <= (W * r) * (W * r)) : n0 <= 0 /\ 0 <= n1 /\ q2 Mx My <= r * r := by
 subst hN
 refine ⟨?_, ?_, ?_⟩
 ·apply Classical.byContradiction; intro hh
  have := Int.mul_pos (show 0 < n0 by omega) hW
  omega
 ·apply Classical.byContradiction; intro hh
  have := Int.mul_pos (show 0 < -n1 by omega) hW
  rw [Int.neg_mul] at this; omega
 ·rw [show W * Mx - 0 * vx = W * Mx by omega, show W * My - 0 * vy = W * My by omega, dN, show W * r * (W * r) = W * W * (r * r) by grind] at h
  exact g8 hW h
theorem Sh.cv {ux uy j l : Int} (hn : 0 <= n0) (hr : 0 <= r) (h1 : Sh n0 n1 Mx My r vx vy 1) (h2 : Sh n0 n1 Mx My r ux uy 1) (hj : 0 <= j) (hl : j <= l) (h0 : 0 < l) : Sh n0 n1 Mx My r ((l - j) * vx + j * ux) ((l - j) * vy + j * uy) l := by
 obtain ⟨N1, W1, a1, a2, a3, a4⟩ := h1
 obtain ⟨N2, W2, b1, b2, b3, b4⟩ := h2
 rw [Int.mul_one] at a4 b4
 have hlj : 0 <= l - j := by omega
 have hN1 : 0 <= N1 := Int.le_trans (imn hn (Int.le_of_lt a1)) a2
 have hN2 : 0 <= N2 := Int.le_trans (imn hn (Int.le_of_lt b1)) b2
 by_cases z1 : N1 = 0
 ·obtain ⟨c1, c2, c3⟩ := ya hn a1 a2 a3 z1 a4
  exact sh0 c1 c2 h0 c3
 by_cases z2 : N2 = 0
 ·obtain ⟨c1, c2, c3⟩ := ya hn b1 b2 b3 z2 b4
  exact sh0 c1 c2 h0 c3
 have p1 : 0 < N1 := by omega
 have p2 : 0 < N2 := by omega
 have u1 : 0 <= (l - j) * N2 := imn hlj hN2
 have u2 : 0 <= j * N1 := imn hj hN1
 have hWp : 0 < (l - j) * N2 * W1 + j * N1 * W2 := by
  by_cases e : j = 0
  ·subst e
   have := Int.mul_pos (Int.mul_pos (show 0 < l - 0 by omega) p2) a1
   have := imn (imn (show (0 : Int) <= 0 by omega) hN1) (Int.le_of_lt b1)
   omega
  ·have := Int.mul_pos (Int.mul_pos (show 0 < j by omega) p1) b1
   have := imn u1 (Int.le_of_lt a1)
   omega
 refine ⟨l * N1 * N2, (l - j) * N2 * W1 + j * N1 * W2, hWp, ?_, ?_, ?_⟩
 ·have k1 := iml a2 u1
  have k2 := iml b2 u2
  have e1 : n0 * ((l - j) * N2 * W1 + j * N1 * W2) = (l - j) * N2 * (n0 * W1) + j * N1 * (n0 * W2) := by grind
  have e2 : l * N1 * N2 = (l - j) * N2 * N1 + j * N1 * N2 := by grind
  omega
 ·have k1 := iml a3 u1
  have k2 := iml b3 u2
  have e1 : n1 * ((l - j) * N2 * W1 + j * N1 * W2) = (l - j) * N2 * (n1 * W1) + j * N1 * (n1 * W2) := by grind
  have e2 : l * N1 * N2 = (l - j) * N2 * N1 + j * N1 * N2 := by grind
  omega
 ·have f1 : q2 ((l - j) * N2 * (W1 * Mx - N1 * vx)) ((l - j) * N2 * (W1 * My - N1 * vy)) <= ((l - j) * N2 * (W1 * r)) * ((l - j) * N2 * (W1 * r)) := by
   rw [dN, show ((l - j) * N2 * (W1 * r)) * ((l - j) * N2 * (W1 * r)) = (l - j) * N2 * ((l - j) * N2) * (W1 * r * (W1 * r)) by grind]
   exact iml a4 (sq0 _)
  have f2 : q2 (j * N1 * (W2 * Mx - N2 * ux)) (j * N1 * (W2 * My - N2 * uy)) <= (j * N1 * (W2 * r)) * (j * N1 * (W2 * r)) := by
   rw [dN, show (j * N1 * (W2 * r)) * (j * N1 * (W2 * r)) = j * N1 * (j * N1) * (W2 * r * (W2 * r)) by grind]
   exact iml b4 (sq0 _)
  have f3 := JO (imn u1 (imn (Int.le_of_lt a1) hr)) (imn u2 (imn (Int.le_of_lt b1) hr)) f1 f2
  have f4 := iml f3 (sq0 l)
  rw [← dN] at f4
  have e1 : ∀ M v u : Int, ((l - j) * N2 * W1 + j * N1 * W2) * l * M - l * N1 * N2 * ((l - j) * v + j * u) = l * ((l - j) * N2 * (W1 * M - N1 * v) + j * N1 * (W2 * M - N2 * u)) := fun M v u => by grind
  rw [e1, e1]
  have e2 : ((l - j) * N2 * W1 + j * N1 * W2) * l * r * (((l - j) * N2 * W1 + j * N1 * W2) * l * r) = l * l * (((l - j) * N2 * (W1 * r) + j * N1 * (W2 * r)) * ((l - j) * N2 * (W1 * r) + j * N1 * (W2 * r))) := by grind
  rw [e2]; exact f4
theorem Sh.row {a b x y : Int} (hn : 0 <= n0) (hr : 0 <= r) (h1 : Sh n0 n1 Mx My r a y 1) (h2 : Sh n0 n1 Mx My r b y 1) (ha : a <= x) (hb : x <= b) : Sh n0 n1 Mx My r x y 1 := by
 by_cases e : a = b
 ·rw [show x = a by omega]; exact h1
 ·have h := Sh.cv (j := x - a) (l := b - a) hn hr h1 h2 (by omega) (by omega) (by omega)
  rw [show (b - a - (x - a)) * a + (x - a) * b = (b - a) * x by grind, show (b - a - (x - a)) * y + (x - a) * y = (b - a) * y by grind] at h
  have e1 := Sh.scale (n0 := n0) (n1 := n1) (Mx := Mx) (My := My) (r := r) (vx := x) (vy := y) (k := 1) (l := b - a) (by omega)
  rw [Int.mul_one] at e1
  exact e1.1 h
theorem Sh.col {a b x y : Int} (hn : 0 <= n0) (hr : 0 <= r) (h1 : Sh n0 n1 Mx My r x a 1) (h2 : Sh n0 n1 Mx My r x b 1) (ha : a <= y) (hb : y <= b) : Sh n0 n1 Mx My r x y 1 := by
 by_cases e : a = b
 ·rw [show y = a by omega]; exact h1
 ·have h := Sh.cv (j := y - a) (l := b - a) hn hr h1 h2 (by omega) (by omega) (by omega)
  rw [show (b - a - (y - a)) * a + (y - a) * b = (b - a) * y by grind, show (b - a - (y - a)) * x + (y - a) * x = (b - a) * x by grind] at h
  have e1 := Sh.scale (n0 := n0) (n1 := n1) (Mx := Mx) (My := My) (r := r) (vx := x) (vy := y) (k := 1) (l := b - a) (by omega)
  rw [Int.mul_one] at e1
  exact e1.1 h
theorem Sh.all {x y : Int} (hn : 0 <= n0) (hr : 0 <= r) (h1 : Sh n0 n1 Mx My r X0 Y0 1) (h2 : Sh n0 n1 Mx My r X1 Y0 1) (h3 : Sh n0 n1 Mx My r X1 Y1 1) (h4 : Sh n0 n1 Mx My r X0 Y1 1) (a1 : X0 <= x) (a2 : x <= X1) (b1 : Y0 <= y) (b2 : y <= Y1) : Sh n0 n1 Mx My r x y 1 :=
 Sh.col hn hr (Sh.row hn hr h1 h2 a1 a2) (Sh.row hn hr h4 h3 a1 a2) b1 b2
theorem Tou.of {x y : Int} (h : Sh n0 n1 Mx My r x y 1) (a1 : X0 <= x) (a2 : x <= X1) (b1 : Y0 <= y) (b2 : y <= Y1) : Tou n0 n1 Mx My r X0 Y0 X1 Y1 := ⟨x, y, 1, by omega, by omega, by omega, h⟩
theorem Tou.pt {x y : Int} (h : Tou n0 n1 Mx My r x y x y) : Sh n0 n1 Mx My r x y 1 := by
 obtain ⟨vx, vy, k, hk, h1, h2, h3⟩ := h
 rw [show vx = k * x by omega, show vy = k * y by omega] at h3
 have e1 := Sh.scale (n0 := n0) (n1 := n1) (Mx := Mx) (My := My) (r := r) (vx := x) (vy := y) (k := 1) hk
 rw [Int.mul_one] at e1
 exact e1.1 h3
theorem Tou.sub {Z0 V0 Z1 V1 : Int} (h : Tou n0 n1 Mx My r X0 Y0 X1 Y1) (a1 : Z0 <= X0) (a2 : X1 <= Z1) (b1 : V0 <= Y0) (b2 : Y1 <= V1) : Tou n0 n1 Mx My r Z0 V0 Z1 V1 := by
 obtain ⟨vx, vy, k, hk, h1, h2, h3⟩ := h
 have hk0 := Int.le_of_lt hk
 have := iml a1 hk0
 have := iml a2 hk0
 have := iml b1 hk0
 have := iml b2 hk0
 exact ⟨vx, vy, k, hk, by omega, by omega, h3⟩
theorem Tou.grow {m0 m1 s : Int} (h0 : m0 <= n0) (h1 : n1 <= m1) (hr : 0 <= r) (hs : r <= s) (h : Tou n0 n1 Mx My r X0 Y0 X1 Y1) : Tou m0 m1 Mx My s X0 Y0 X1 Y1 := by
 obtain ⟨vx, vy, k, hk, g1, g2, g3⟩ := h
 exact ⟨vx, vy, k, hk, g1, g2, g3.grow h0 h1 hr hs hk⟩
end
def atP (h lx ly n cx cy : Int) : P2 := (h * lx + n * (cx - lx), h * ly + n * (cy - ly))
section
variable {h lx ly n0 n1 mx my r X0 Y0 X1 Y1 : Int}
def Dq8 (h lx ly n0 n1 X0 Y0 X1 Y1 : Int) (q : P2) : Prop := ∃ n cx cy, (n = n0 ∨ n = n1) /\ (cx = X0 ∨ cx = X1) /\ (cy = Y0 ∨ cy = Y1) /\ q = atP h lx ly n cx cy
theorem Bp (hn : 0 <= n0) (h1 : n0 <= n1) (hX : X0 <= X1) (hY : Y0 <= Y1) {a b c : P2} (ha : Dq8 h lx ly n0 n1 X0 Y0 X1 Y1 a) (hb : Dq8 h lx ly n0 n1 X0 Y0 X1 Y1 b) (hc : Dq8 h lx ly n0 n1 X0 Y0 X1 Y1 c) {u v w : Int} (hu : 0 <= u) (hv : 0 <= v) (hw : 0 <= w) (hs : 0 < u + v + w)
 (hq : q2 ((u + v + w) * mx - (u * a.1 + v * b.1 + w * c.1)) ((u + v + w) * my - (u * a.2 + v * b.2 + w * c.2)) <= ((u + v + w) * r) * ((u + v + w) * r)) :
 Tou n0 n1 (mx - h * lx) (my - h * ly) r (X0 - lx) (Y0 - ly) (X1 - lx) (Y1 - ly) := by
 obtain ⟨na, ax, ay, a1, a2, a3, rfl⟩ := ha
 obtain ⟨nb, bx, b2, b1, b3, b4, rfl⟩ := hb
 obtain ⟨nc, cx, cy, c1, c2, c3, rfl⟩ := hc
 have ga : n0 <= na /\ na <= n1 /\ X0 <= ax /\ ax <= X1 /\ Y0 <= ay /\ ay <= Y1 := by omega
 have gb : n0 <= nb /\ nb <= n1 /\ X0 <= bx /\ bx <= X1 /\ Y0 <= b2 /\ b2 <= Y1 := by omega
 have gc : n0 <= nc /\ nc <= n1 /\ X0 <= cx /\ cx <= X1 /\ Y0 <= cy /\ cy <= Y1 := by omega
 clear a1 a2 a3 b1 b3 b4 c1 c2 c3
 unfold atP at hq
 simp only at hq
 have pa : 0 <= u * na := imn hu (by omega)
 have pb : 0 <= v * nb := imn hv (by omega)
 have pc : 0 <= w * nc := imn hw (by omega)
 have ea : u * n0 <= u * na /\ u * na <= u * n1 := ⟨iml ga.1 hu, iml ga.2.1 hu⟩
 have eb : v * n0 <= v * nb /\ v * nb <= v * n1 := ⟨iml gb.1 hv, iml gb.2.1 hv⟩
 have ec : w * n0 <= w * nc /\ w * nc <= w * n1 := ⟨iml gc.1 hw, iml gc.2.1 hw⟩
 have w0 : n0 * (u + v + w) = u * n0 + v * n0 + w * n0 := by grind
 have w1 : n1 * (u + v + w) = u * n1 + v * n1 + w * n1 := by grind
 have e1 : ∀ M l p q s : Int, (u + v + w) * M - (u * (h * l + na * (p - l)) + v * (h * l + nb * (q - l)) + w * (h * l + nc * (s - l))) = (u + v + w) * (M - h * l) - (u * na * (p - l) + v * nb * (q - l) + w * nc * (s - l)) := fun M l p q s => by grind
 rw [e1, e1] at hq
 by_cases z : u * na + v * nb + w * nc = 0
 ·have z1 : u * na = 0 := by omega
  have z2 : v * nb = 0 := by omega
  have z3 : w * nc = 0 := by omega
  rw [z1, z2, z3] at hq
  refine ⟨X0 - lx, Y0 - ly, 1, by omega, by omega, by omega, 0, u + v + w, hs, by omega, by omega, ?_⟩
  rw [Int.mul_one]
  refine Int.le_trans (Int.le_of_eq ?_) hq
  congr 1 <;> omega
 ·have hN : 0 < u * na + v * nb + w * nc := by omega
  have bd : ∀ Z l p q s : Int, Z <= p -> Z <= q -> Z <= s -> (u * na + v * nb + w * nc) * (Z - l) <= u * na * (p - l) + v * nb * (q - l) + w * nc * (s - l) := fun Z l p q s k1 k2 k3 => by
   have := iml (show Z - l <= p - l by omega) pa
   have := iml (show Z - l <= q - l by omega) pb
   have := iml (show Z - l <= s - l by omega) pc
   have e : (u * na + v * nb + w * nc) * (Z - l) = u * na * (Z - l) + v * nb * (Z - l) + w * nc * (Z - l) := by grind
   omega
  have bu : ∀ Z l p q s : Int, p <= Z -> q <= Z -> s <= Z -> u * na * (p - l) + v * nb * (q - l) + w * nc * (s - l) <= (u * na + v * nb + w * nc) * (Z - l) := fun Z l p q s k1 k2 k3 => by
   have := iml (show p - l <= Z - l by omega) pa
   have := iml (show q - l <= Z - l by omega) pb
   have := iml (show s - l <= Z - l by omega) pc
   have e : (u * na + v * nb + w * nc) * (Z - l) = u * na * (Z - l) + v * nb * (Z - l) + w * nc * (Z - l) := by grind
   omega
  refine ⟨u * na * (ax - lx) + v * nb * (bx - lx) + w * nc * (cx - lx), u * na * (ay - ly) + v * nb * (b2 - ly) + w * nc * (cy - ly), u * na + v * nb + w * nc, hN,
   ⟨bd _ _ _ _ _ ga.2.2.1 gb.2.2.1 gc.2.2.1, bu _ _ _ _ _ ga.2.2.2.1 gb.2.2.2.1 gc.2.2.2.1⟩, ⟨bd _ _ _ _ _ ga.2.2.2.2.1 gb.2.2.2.2.1 gc.2.2.2.2.1, bu _ _ _ _ _ ga.2.2.2.2.2 gb.2.2.2.2.2 gc.2.2.2.2.2⟩,
   u * na + v * nb + w * nc, u + v + w, hs, by omega, by omega, ?_⟩
  have e2 : ∀ M S : Int, (u + v + w) * (u * na + v * nb + w * nc) * M - (u * na + v * nb + w * nc) * S = (u * na + v * nb + w * nc) * ((u + v + w) * M - S) := fun M S => by grind
  have e3 : (u + v + w) * (u * na + v * nb + w * nc) * r * ((u + v + w) * (u * na + v * nb + w * nc) * r) = (u * na + v * nb + w * nc) * (u * na + v * nb + w * nc) * ((u + v + w) * r * ((u + v + w) * r)) := by grind
  rw [e2, e2, dN, e3]
  exact iml hq (sq0 _)
theorem DD (hn : 0 <= n0) (h1 : n0 <= n1) (hX : X0 <= X1) (hY : Y0 <= Y1) (hr : 0 <= r) (hf : sK (Dq8 h lx ly n0 n1 X0 Y0 X1 Y1) (mx, my) r) : Tou n0 n1 (mx - h * lx) (my - h * ly) r (X0 - lx) (Y0 - ly) (X1 - lx) (Y1 - ly) := by
 rcases hf with ⟨a, b, ha, hb, hab⟩ | ⟨a, b, c, ha, hb, hc, h0, hw⟩
 ·obtain ⟨n, m, k1, k2, k3, k4⟩ := (ma hr).1 hab
  simp only at k4
  refine Bp hn h1 hX hY ha hb hb (u := m - n) (v := n) (w := 0) (by omega) k1 (Int.le_refl 0) (by omega) ?_
  have e : ∀ M p q : Int, (m - n + n + 0) * M - ((m - n) * p + n * q + 0 * q) = m * M - 1 * ((m - n) * p + n * q) := fun M p q => by grind
  rw [e, e, show m - n + n + 0 = m by omega]
  rw [Int.mul_one] at k4
  exact k4
 ·have es : sdp b c (mx, my) + sdp c a (mx, my) + sdp a b (mx, my) = sdp a b c := by unfold sdp sd; grind
  have ex : sdp b c (mx, my) * a.1 + sdp c a (mx, my) * b.1 + sdp a b (mx, my) * c.1 = sdp a b c * mx := by unfold sdp sd; grind
  have ey : sdp b c (mx, my) * a.2 + sdp c a (mx, my) * b.2 + sdp a b (mx, my) * c.2 = sdp a b c * my := by unfold sdp sd; grind
  have z : ∀ t : Int, q2 0 0 <= t * t := fun t => by have := sq0 t; unfold q2; omega
  rcases hw with ⟨w1, w2, w3⟩ | ⟨w1, w2, w3⟩
  ·refine Bp hn h1 hX hY ha hb hc (u := sdp b c (mx, my)) (v := sdp c a (mx, my)) (w := sdp a b (mx, my)) w2 w3 w1 (by omega) ?_
   rw [es, ex, ey, Int.sub_self, Int.sub_self]; exact z _
  ·refine Bp hn h1 hX hY ha hb hc (u := -sdp b c (mx, my)) (v := -sdp c a (mx, my)) (w := -sdp a b (mx, my)) (by omega) (by omega) (by omega) (by omega) ?_
   rw [Int.neg_mul, Int.neg_mul, Int.neg_mul, Int.neg_mul, Int.neg_mul, Int.neg_mul, show -sdp b c (mx, my) + -sdp c a (mx, my) + -sdp a b (mx, my) = -sdp a b c by omega, show -(sdp b c (mx, my) * a.1) + -(sdp c a (mx, my) * b.1) + -(sdp a b (mx, my) * c.1) = -(sdp a b c * mx) by omega, show -(sdp b c (mx, my) * a.2) + -(sdp c a (mx, my) * b.2) + -(sdp a b (mx, my) * c.2) = -(sdp a b c * my) by omega, Int.neg_mul, Int.neg_mul, Int.sub_self, Int.sub_self]; exact z _
theorem Ga (hn : 0 <= n0) (ht : Tou n0 n1 (mx - h * lx) (my - h * ly) r (X0 - lx) (Y0 - ly) (X1 - lx) (Y1 - ly)) : CvN (Dq8 h lx ly n0 n1 X0 Y0 X1 Y1) mx my r := by
 obtain ⟨vx, vy, k, hk, ⟨x0, x1⟩, ⟨y0, y1⟩, N, W, hW, g1, g2, g3⟩ := ht
 have hN : 0 <= N := Int.le_trans (imn hn (Int.le_of_lt hW)) g1
 have hk0 : 0 <= k := Int.le_of_lt hk
 refine ⟨W * k * (h * lx) + N * vx, W * k * (h * ly) + N * vy, W * k, Int.mul_pos hW hk, fun A B C hD => ?_, ?_⟩
 ·have mn : ∀ A v Z0 Z1 : Int, k * Z0 <= v -> v <= k * Z1 -> ∃ Z, (Z = Z0 ∨ Z = Z1) /\ k * (A * Z) <= A * v := fun A v Z0 Z1 h0 h1 => by
   rcases Int.le_total 0 A with hA | hA
   ·refine ⟨Z0, .inl rfl, ?_⟩
    have := iml h0 hA
    have e : A * (k * Z0) = k * (A * Z0) := by grind
    omega
   ·refine ⟨Z1, .inr rfl, ?_⟩
    have := iml h1 (show 0 <= -A by omega)
    rw [Int.neg_mul, Int.neg_mul] at this
    have e : A * (k * Z1) = k * (A * Z1) := by grind
    omega
  obtain ⟨Zx, zx, kx⟩ := mn A vx _ _ x0 x1
  obtain ⟨Zy, zy, ky⟩ := mn B vy _ _ y0 y1
  have d0 := hD _ ⟨n0, Zx + lx, Zy + ly, .inl rfl, by omega, by omega, rfl⟩
  have d1 := hD _ ⟨n1, Zx + lx, Zy + ly, .inr rfl, by omega, by omega, rfl⟩
  unfold atP at d0 d1
  simp only [Int.add_sub_cancel] at d0 d1
  have k1 := iml (show k * (A * Zx + B * Zy) <= A * vx + B * vy by rw [Int.mul_add]; omega) hN
  have e1 : A * (W * k * (h * lx) + N * vx) + B * (W * k * (h * ly) + N * vy) + C * (W * k) = k * (W * (A * (h * lx) + B * (h * ly) + C)) + N * (A * vx + B * vy) := by grind
  have e2 : N * (k * (A * Zx + B * Zy)) = k * (N * (A * Zx + B * Zy)) := by grind
  have e3 : A * (h * lx + n0 * Zx) + B * (h * ly + n0 * Zy) + C = (A * (h * lx) + B * (h * ly) + C) + n0 * (A * Zx + B * Zy) := by grind
  have e4 : A * (h * lx + n1 * Zx) + B * (h * ly + n1 * Zy) + C = (A * (h * lx) + B * (h * ly) + C) + n1 * (A * Zx + B * Zy) := by grind
  rw [e3] at d0; rw [e4] at d1
  generalize A * (h * lx) + B * (h * ly) + C = Z at *
  generalize A * Zx + B * Zy = G at *
  have key : 0 <= W * Z + N * G := by
   rcases Int.le_total 0 G with hG | hG
   ·have := Int.mul_le_mul_of_nonneg_right g1 hG
    have := imn (Int.le_of_lt hW) d0
    have e : W * (Z + n0 * G) = W * Z + n0 * W * G := by grind
    omega
   ·have := Int.mul_le_mul_of_nonneg_right g2 (show 0 <= -G by omega)
    rw [Int.mul_neg, Int.mul_neg] at this
    have := imn (Int.le_of_lt hW) d1
    have e : W * (Z + n1 * G) = W * Z + n1 * W * G := by grind
    omega
  have := imn hk0 key
  rw [Int.mul_add] at this
  omega
 ·have e : ∀ M l v : Int, W * k * M - (W * k * (h * l) + N * v) = W * k * (M - h * l) - N * v := fun M l v => by grind
  rw [e, e]; exact g3
theorem Gn (h1 : n0 <= n1) (hr : 0 <= r) {px py : Int} : nr (h * lx + n0 * (px - lx)) (h * ly + n0 * (py - ly)) (h * lx + n1 * (px - lx)) (h * ly + n1 * (py - ly)) mx my r = true ↔ Sh n0 n1 (mx - h * lx) (my - h * ly) r (px - lx) (py - ly) 1 := by
 rw [gI hr]
 have e : ∀ n m M l p : Int, m * M - 1 * ((m - n) * (h * l + n0 * (p - l)) + n * (h * l + n1 * (p - l))) = m * 1 * (M - h * l) - ((m - n) * n0 + n * n1) * (p - l) := fun n m M l p => by grind
 constructor
 ·rintro ⟨n, m, k1, k2, k3, k4⟩
  rw [e, e] at k4
  have := iml h1 (show 0 <= m - n by omega)
  have := iml h1 k1
  have e1 : n0 * m = (m - n) * n0 + n * n0 := by grind
  have e2 : n1 * m = (m - n) * n1 + n * n1 := by grind
  exact ⟨_, m, k3, by omega, by omega, k4⟩
 ·rintro ⟨N, W, k1, k2, k3, k4⟩
  by_cases e0 : n0 = n1
  ·subst e0
   refine ⟨0, W, Int.le_refl 0, Int.le_of_lt k1, k1, ?_⟩
   rw [e, e]
   have : N = (W - 0) * n0 + 0 * n0 := by rw [Int.sub_zero, Int.zero_mul, Int.add_zero, Int.mul_comm]; omega
   rw [← this]; exact k4
  ·have hd : 0 < n1 - n0 := by omega
   refine ⟨N - n0 * W, W * (n1 - n0), by omega, ?_, Int.mul_pos k1 hd, ?_⟩
   ·have : W * (n1 - n0) = n1 * W - n0 * W := by grind
    omega
   ·rw [e, e]
    have e3 : (W * (n1 - n0) - (N - n0 * W)) * n0 + (N - n0 * W) * n1 = (n1 - n0) * N := by grind
    rw [e3]
    have e4 : ∀ M v : Int, W * (n1 - n0) * 1 * M - (n1 - n0) * N * v = (n1 - n0) * (W * 1 * M - N * v) := fun M v => by grind
    rw [e4, e4, dN, show W * (n1 - n0) * 1 * r * (W * (n1 - n0) * 1 * r) = (n1 - n0) * (n1 - n0) * (W * 1 * r * (W * 1 * r)) by grind]
    exact iml k4 (sq0 _)
end
theorem AZ (p : P2) : ∀ c : List P2, c.Pairwise ltP -> ∃ d : List P2, d.Pairwise ltP /\ ∀ q, q ∈ d ↔ q = p ∨ q ∈ c
 | [], _ => ⟨[p], by simp, fun q => by simp⟩
 | a :: c, h => by
   rcases kG p a with hl | rfl | hl
   ·refine ⟨p :: a :: c, ?_, fun q => by simp⟩
    refine List.pairwise_cons.2 ⟨fun q hq => ?_, h⟩
    rcases List.mem_cons.1 hq with rfl | hq
    ·exact hl
    ·exact mU hl ((List.pairwise_cons.1 h).1 q hq)
   ·exact ⟨p :: c, h, fun q => by simp⟩
   ·obtain ⟨d, d1, d2⟩ := AZ p c (List.pairwise_cons.1 h).2
    refine ⟨a :: d, List.pairwise_cons.2 ⟨fun q hq => ?_, d1⟩, fun q => ?_⟩
    ·rcases (d2 q).1 hq with rfl | hq
     ·exact hl
     ·exact (List.pairwise_cons.1 h).1 q hq
    ·rw [List.mem_cons, List.mem_cons, d2]
     constructor
     ·rintro (h | h | h)
      ·exact .inr (.inl h)
      ·exact .inl h
      ·exact .inr (.inr h)
     ·rintro (h | h | h)
      ·exact .inr (.inl h)
      ·exact .inl h
      ·exact .inr (.inr h)
theorem xf : ∀ L : List P2, ∃ c : List P2, c.Pairwise ltP /\ ∀ q, q ∈ c ↔ q ∈ L
 | [] => ⟨[], List.Pairwise.nil, fun q => Iff.rfl⟩
 | p :: L => by
   obtain ⟨c, c1, c2⟩ := xf L
   obtain ⟨d, d1, d2⟩ := AZ p c c1
   exact ⟨d, d1, fun q => by rw [d2, c2, List.mem_cons]⟩
theorem E3 {L : List P2} (h0 : L ≠ []) {m : P2} {r : Int} (hr : 0 <= r) (h : CvN (fun q => q ∈ L) m.1 m.2 r) : sK (fun q => q ∈ L) m r := by
 obtain ⟨c, c1, c2⟩ := xf L
 have e : (fun q => q ∈ c) = fun q => q ∈ L := funext fun q => propext (c2 q)
 have hc : c ≠ [] := fun hn => by
  subst hn
  cases L with
  | nil => exact h0 rfl
  | cons a L => exact absurd ((c2 a).2 (by simp)) (by simp)
 rw [← e] at h ⊢
 exact (BK c1 hc hr).1 (Ep c1 hc hr h)
theorem CJ {h lx ly n0 n1 mx my r X0 Y0 X1 Y1 : Int} {L : List P2} (hL : ∀ q, q ∈ L ↔ Dq8 h lx ly n0 n1 X0 Y0 X1 Y1 q) (hn : 0 <= n0) (h1 : n0 <= n1) (hX : X0 <= X1) (hY : Y0 <= Y1) (hr : 0 <= r) :
 sK (fun q => q ∈ L) (mx, my) r ↔ Tou n0 n1 (mx - h * lx) (my - h * ly) r (X0 - lx) (Y0 - ly) (X1 - lx) (Y1 - ly) := by
 have e : (fun q => q ∈ L) = Dq8 h lx ly n0 n1 X0 Y0 X1 Y1 := funext fun q => propext (hL q)
 constructor
 ·intro hf; rw [e] at hf; exact DD hn h1 hX hY hr hf
 ·intro ht
  have hc := Ga hn ht
  rw [← e] at hc
  refine E3 (fun hn => ?_) hr hc
  subst hn
  exact absurd ((hL _).2 ⟨n0, X0, Y0, .inl rfl, .inl rfl, .inl rfl, rfl⟩) (by simp)
end Go.Dx
namespace Go.Dx
open Go.IntKind (i64 u64 u8)
open Go.Sx
noncomputable section
section
variable {X Y h tx ty R lo hi x9 x10 x11 x12 px py : Int}
def shP (X Y h tx ty R lo hi px py : Int) : Prop := lo <= h /\ Sh (max 0 (h - hi)) (h - lo) (h * tx - h * X) (h * ty - h * Y) (h * R) (px - X) (py - Y) 1
def toP (X Y h tx ty R lo hi x9 x10 x11 x12 : Int) : Prop := lo <= h /\ Tou (max 0 (h - hi)) (h - lo) (h * tx - h * X) (h * ty - h * Y) (h * R) (x9 - X) (x10 - Y) (x11 - X) (x12 - Y)
theorem TC.has_v (t : TC X Y h tx ty R lo hi) (hx : -100000 <= px /\ px <= 100000) (hy : -100000 <= py /\ py <= 100000) : mi X Y h (gx h hi) (gM h lo) (gL h tx) (gH h ty) (gC h R) (eq h lo) px py = true ↔ shP X Y h tx ty R lo hi px py := by
 obtain ⟨e1, e1', e2, e2', e3, e3', e4, e4', e5, e5', s1, s2, s3, s4⟩ := t.vals
 have := t.h'; have := t.lo'
 unfold mi shP
 cases hb : eq h lo with
 | true =>
   unfold eq at hb
   have hb := of_decide_eq_true hb
   simp only [Bool.not_true, cond_false]
   constructor
   ·intro h; cases h
   ·intro h; omega
 | false =>
   rw [Bool.not_false, cond_true, e1, e2, e3, e4, e5]
   unfold eq at hb
   have hb := of_decide_eq_false hb
   have p0 := atS t.X' (h := h) (n := max 0 (h - hi)) (by omega) (by omega) hx
   have p1 := atS t.Y' (h := h) (n := max 0 (h - hi)) (by omega) (by omega) hy
   have q0 := atS t.X' (h := h) (n := h - lo) (by omega) (by omega) hx
   have q1 := atS t.Y' (h := h) (n := h - lo) (by omega) (by omega) hy
   rw [p0.1, p1.2.1, q0.1, q1.2.1, v8 p0.2.2 p1.2.2 q0.2.2 q1.2.2 s1 s2 s3 s4, Gn (by omega) s3]
   exact ⟨fun h => ⟨by omega, h⟩, fun h => h.2⟩
theorem TC.tou_v (t : TC X Y h tx ty R lo hi) (h9 : -100000 <= x9 /\ x9 <= 100000) (h10 : -100000 <= x10 /\ x10 <= 100000) (h11 : -100000 <= x11 /\ x11 <= 100000) (h12 : -100000 <= x12 /\ x12 <= 100000) (hX : x9 <= x11) (hY : x10 <= x12) :
 F57 X Y h (gx h hi) (gM h lo) (gL h tx) (gH h ty) (gC h R) (eq h lo) x9 x10 x11 x12 = true ↔ toP X Y h tx ty R lo hi x9 x10 x11 x12 := by
 obtain ⟨e1, e1', e2, e2', e3, e3', e4, e4', e5, e5', s1, s2, s3, s4⟩ := t.vals
 have := t.h'; have := t.lo'
 unfold F57 toP
 cases hb : eq h lo with
 | true =>
   unfold eq at hb
   have hb := of_decide_eq_true hb
   simp only [Bool.not_true, Bool.false_and]
   constructor
   ·intro h; cases h
   ·intro h; omega
 | false =>
   unfold eq at hb
   have hb := of_decide_eq_false hb
   rw [Bool.not_false, Bool.true_and, e1, e2, e3, e4, e5]
   have hL : ∀ q, q ∈ pl57 X Y h (max 0 (h - hi)) (h - lo) x9 x10 x11 x12 ↔ Dq8 h X Y (max 0 (h - hi)) (h - lo) x9 x10 x11 x12 q := by
    have u : ∀ {c}, -100000 <= c /\ c <= 100000 -> aW X h c (max 0 (h - hi)) = h * X + max 0 (h - hi) * (c - X) /\ aW X h c (h - lo) = h * X + (h - lo) * (c - X) := fun hc => ⟨(atS t.X' (h := h) (n := max 0 (h - hi)) (by omega) (by omega) hc).1, (atS t.X' (h := h) (n := h - lo) (by omega) (by omega) hc).1⟩
    have v : ∀ {c}, -100000 <= c /\ c <= 100000 -> aV Y h c (max 0 (h - hi)) = h * Y + max 0 (h - hi) * (c - Y) /\ aV Y h c (h - lo) = h * Y + (h - lo) * (c - Y) := fun hc => ⟨(atS t.Y' (h := h) (n := max 0 (h - hi)) (by omega) (by omega) hc).2.1, (atS t.Y' (h := h) (n := h - lo) (by omega) (by omega) hc).2.1⟩
    intro q
    unfold pl57
    rw [(u h9).1, (u h9).2, (u h11).1, (u h11).2, (v h10).1, (v h10).2, (v h12).1, (v h12).2]
    simp only [List.mem_cons, List.not_mem_nil, or_false]
    constructor
    ·rintro (e | e | e | e | e | e | e | e)
     ·exact ⟨_, _, _, .inl rfl, .inl rfl, .inl rfl, e⟩
     ·exact ⟨_, _, _, .inr rfl, .inl rfl, .inl rfl, e⟩
     ·exact ⟨_, _, _, .inl rfl, .inr rfl, .inl rfl, e⟩
     ·exact ⟨_, _, _, .inr rfl, .inr rfl, .inl rfl, e⟩
     ·exact ⟨_, _, _, .inl rfl, .inr rfl, .inr rfl, e⟩
     ·exact ⟨_, _, _, .inr rfl, .inr rfl, .inr rfl, e⟩
     ·exact ⟨_, _, _, .inl rfl, .inl rfl, .inr rfl, e⟩
     ·exact ⟨_, _, _, .inr rfl, .inl rfl, .inr rfl, e⟩
    ·rintro ⟨n, cx, cy, rfl | rfl, rfl | rfl, rfl | rfl, e⟩
     ·exact .inl e
     ·exact .inr (.inr (.inr (.inr (.inr (.inr (.inl e))))))
     ·exact .inr (.inr (.inl e))
     ·exact .inr (.inr (.inr (.inr (.inl e))))
     ·exact .inr (.inl e)
     ·exact .inr (.inr (.inr (.inr (.inr (.inr (.inr e))))))
     ·exact .inr (.inr (.inr (.inl e)))
     ·exact .inr (.inr (.inr (.inr (.inr (.inl e)))))
   have hf := CJ (mx := h * tx) (my := h * ty) hL (by omega) (by omega) hX hY s3
   constructor
   ·intro hr
    refine ⟨by omega, hf.1 ?_⟩
    exact @of_decide_eq_true _ (Classical.propDecidable _) hr
   ·intro hr
    exact Gr (hf.2 hr.2)
end
section
variable {n0 : Nat} {f0 : Nat -> List V} {n2 : Nat} {f2 : Nat -> List V} {n4 : Nat} {f4 : Nat -> List V} {n6 : Nat} {f6 : Nat -> List V} {x8 : Int}
def shA (f2 f6 : Nat -> List V) (x8 : Int) (i : Nat) (x y : Int) : Prop := shP (jv1 (f6 x8.toNat)) (jv2 (f6 x8.toNat)) (jv3 (f6 x8.toNat)) (jv0 (f2 i)) (jv1 (f2 i)) (jv2 (f2 i)) (jv3 (f2 i)) (jv4 (f2 i)) x y
def we (f2 f6 : Nat -> List V) (x8 : Int) (i : Nat) (a b c d : Int) : Prop := toP (jv1 (f6 x8.toNat)) (jv2 (f6 x8.toNat)) (jv3 (f6 x8.toNat)) (jv0 (f2 i)) (jv1 (f2 i)) (jv2 (f2 i)) (jv3 (f2 i)) (jv4 (f2 i)) a b c d
def cZ (n0 : Nat) (f0 : FnV) (n2 : Nat) (f2 : FnV) (n4 : Nat) (f4 : FnV) (n6 : Nat) (f6 : FnV) (x8 : Int) (m : Nat) : Int := ix1 (bt n0 (elV tyR f0) n2 (elV tyT f2) n4 (elV tyF f4) n6 (elV tyC f6)) x8 m
theorem iT {x9 x10 : Int} : dS n0 f0 n2 f2 n4 f4 n6 f6 x8 x9 x10 = (bif cZ n0 f0 n2 f2 n4 f4 n6 f6 x8 n6 != 0 then cZ n0 f0 n2 f2 n4 f4 n6 f6 x8 n6 else bif !fx x9 x10 then 7 else 0) /\
 (cZ n0 f0 n2 f2 n4 f4 n6 f6 x8 n6 = 0 -> fx x9 x10 = true -> ∃ p : Nat -> Bool, bm n0 f0 n2 f2 n4 f4 n6 f6 x8 x9 x10 = idx n2 p /\ ∀ i, i < n2 -> (p i = true ↔ shA f2 f6 x8 i x9 x10)) := by
 have hc := s8 (n0 := n0) (f0 := f0) (n2 := n2) (f2 := f2) (n4 := n4) (f4 := f4) (n6 := n6) (f6 := f6) (i := x8) (m := n6) (fun h => by have := (jN h).l6; omega)
 unfold bm dS cZ
 rw [hc]
 refine ⟨?_, fun he hp => ?_⟩
 ·rw [ck]; rfl
 ·rw [he, ck]
  have hp' : F51 2 (elV tp1 (bM [vi x9, vi x10] 0 1)) = true := hp
  refine ⟨_, by rw [hp']; exact rfl, fun i hi => ?_⟩
  have hq := qS hp
  exact ((xv he).2 i hi).has_v hq.1 hq.2
theorem D2 {x9 x10 x11 x12 : Int} : kR n0 f0 n2 f2 n4 f4 n6 f6 x8 x9 x10 x11 x12 = (bif cZ n0 f0 n2 f2 n4 f4 n6 f6 x8 n6 != 0 then cZ n0 f0 n2 f2 n4 f4 n6 f6 x8 n6 else bif !hU x9 x10 x11 x12 then 7 else 0) /\
 (cZ n0 f0 n2 f2 n4 f4 n6 f6 x8 n6 = 0 -> hU x9 x10 x11 x12 = true -> ∃ d t : Nat -> Bool, bL n0 f0 n2 f2 n4 f4 n6 f6 x8 x9 x10 x11 x12 = r9 d t n2 /\ ∀ i, i < n2 -> (d i = true ↔ shA f2 f6 x8 i x9 x10 /\ shA f2 f6 x8 i x11 x10 /\ shA f2 f6 x8 i x11 x12 /\ shA f2 f6 x8 i x9 x12) /\ (t i = true ↔ we f2 f6 x8 i x9 x10 x11 x12)) := by
 have hc := s8 (n0 := n0) (f0 := f0) (n2 := n2) (f2 := f2) (n4 := n4) (f4 := f4) (n6 := n6) (f6 := f6) (i := x8) (m := n6) (fun h => by have := (jN h).l6; omega)
 unfold bL kR cZ
 rw [hc, ko]
 refine ⟨rfl, fun he hp => ?_⟩
 rw [he, hp]
 refine ⟨d17 n0 f0 n2 f2 n4 f4 n6 f6 x8 x9 x10 x11 x12, t17 n0 f0 n2 f2 n4 f4 n6 f6 x8 x9 x10 x11 x12, oU _ _ _, fun i hi => ?_⟩
 have hq := lM hp
 have t := (xv he).2 i hi
 refine ⟨?_, t.tou_v hq.1 hq.2.1 hq.2.2.1 hq.2.2.2.1 hq.2.2.2.2.1 hq.2.2.2.2.2⟩
 unfold d17 tW y4
 rw [kw]
 refine Iff.trans (Eq.to_iff (congrArg (· = true) KZ)) ?_
 simp only [Bool.and_eq_true]
 exact and_congr (t.has_v hq.1 hq.2.1) (and_congr (t.has_v hq.2.2.1 hq.2.1) (and_congr (t.has_v hq.2.2.1 hq.2.2.2.1) (t.has_v hq.1 hq.2.2.2.1)))
end
end
end Go.Dx
namespace Go.Dx
open Go.Sx
noncomputable section
section
variable {ax ay bx b2 w X0 Y0 X1 Y1 : Int}
theorem yf (h1 : sm ax) (h2 : sm ay) (g1 : pl X0) (g2 : pl Y0) (g3 : pl X1) (g4 : pl Y1) (h7 : 0 <= w) (h8 : w <= 1073741824) : u4 ax ay X0 Y0 X1 Y1 <= IntKind.i64.wrap (w * w) ↔ ls ax ay (2 * X0) (2 * Y0) (2 * X1) (2 * Y1) w := by
 unfold u4 ls q2
 rw [(dbl g1).1, (dbl g2).1, (dbl g3).1, (dbl g4).1]
 unfold sm at h1 h2
 unfold pl at g1 g2 g3 g4
 rw [aA (x := 2 * X0 - ax) (by omega) (by omega), aA (x := ax - 2 * X1) (by omega) (by omega), aA (x := 2 * Y0 - ay) (by omega) (by omega), aA (x := ay - 2 * Y1) (by omega) (by omega)]
 rw [Int.max_comm 0 (2 * X0 - ax), Int.max_comm 0 (2 * Y0 - ay)]
 have p0 : 0 <= max (max (2 * X0 - ax) 0) (ax - 2 * X1) /\ max (max (2 * X0 - ax) 0) (ax - 2 * X1) <= 1073741824 := by omega
 have q0 : 0 <= max (max (2 * Y0 - ay) 0) (ay - 2 * Y1) /\ max (max (2 * Y0 - ay) 0) (ay - 2 * Y1) <= 1073741824 := by omega
 generalize max (max (2 * X0 - ax) 0) (ax - 2 * X1) = p at p0 ⊢
 generalize max (max (2 * Y0 - ay) 0) (ay - 2 * Y1) = q at q0 ⊢
 have hr := kq (x := w) (y := w) (A := 1073741824) (B := 1073741824) (by omega) h8 (by omega) h8
 have hp := kq (x := p) (y := p) (A := 1073741824) (B := 1073741824) (by omega) p0.2 (by omega) p0.2
 have hq := kq (x := q) (y := q) (A := 1073741824) (B := 1073741824) (by omega) q0.2 (by omega) q0.2
 rw [aA (x := w * w) (by omega) (by omega), aA (x := p * p) (by omega) (by omega), aA (x := q * q) (by omega) (by omega), aA (x := p * p + q * q) (by omega) (by omega)]
theorem CV (h1 : sm ax) (h2 : sm ay) (h3 : sm bx) (h4 : sm b2) (g1 : pl X0) (g2 : pl Y0) (g3 : pl X1) (g4 : pl Y1) (hX : X0 <= X1) (hY : Y0 <= Y1) (h7 : 0 <= w) (h8 : w <= 1073741824) :
 (bE ax ay bx b2 w X0 Y0 X1 Y1 = 2 ↔ nr ax ay bx b2 (2 * X0) (2 * Y0) w = true /\ nr ax ay bx b2 (2 * X1) (2 * Y0) w = true /\ nr ax ay bx b2 (2 * X1) (2 * Y1) w = true /\ nr ax ay bx b2 (2 * X0) (2 * Y1) w = true) /\
 (bE ax ay bx b2 w X0 Y0 X1 Y1 = 0 ↔ ¬ Hit ax ay bx b2 (2 * X0) (2 * Y0) (2 * X1) (2 * Y1) w) /\ 0 <= bE ax ay bx b2 w X0 Y0 X1 Y1 /\ bE ax ay bx b2 w X0 Y0 X1 Y1 <= 2 := by
 have hH : Hit ax ay bx b2 (2 * X0) (2 * Y0) (2 * X1) (2 * Y1) w ↔ (nr ax ay bx b2 (2 * X0) (2 * Y0) w = true ∨ nr ax ay bx b2 (2 * X1) (2 * Y0) w = true ∨ nr ax ay bx b2 (2 * X1) (2 * Y1) w = true ∨ nr ax ay bx b2 (2 * X0) (2 * Y1) w = true) ∨ u4 ax ay X0 Y0 X1 Y1 <= IntKind.i64.wrap (w * w) ∨ u4 bx b2 X0 Y0 X1 Y1 <= IntKind.i64.wrap (w * w) ∨ jo ax ay bx b2 X0 Y0 X1 Y1 = true := by
  rw [C0 h7 (by omega) (by omega), yf h1 h2 g1 g2 g3 g4 h7 h8, yf h3 h4 g1 g2 g3 g4 h7 h8, J7 h1 h2 h3 h4 g1 g2 g3 g4]
  unfold Res
  refine or_congr ?_ (or_congr Iff.rfl (or_congr Iff.rfl ?_))
  ·rw [gI h7, gI h7, gI h7, gI h7]
   constructor
   ·rintro ⟨cx, cy, rfl | rfl, rfl | rfl, h⟩
    ·exact .inl h
    ·exact .inr (.inr (.inr h))
    ·exact .inr (.inl h)
    ·exact .inr (.inr (.inl h))
   ·rintro (h | h | h | h)
    ·exact ⟨_, _, .inl rfl, .inl rfl, h⟩
    ·exact ⟨_, _, .inr rfl, .inl rfl, h⟩
    ·exact ⟨_, _, .inr rfl, .inr rfl, h⟩
    ·exact ⟨_, _, .inl rfl, .inr rfl, h⟩
  ·constructor
   ·intro h
    obtain ⟨k1, ⟨cx, cy, k2, k3, k4⟩, dx, dy, k5, k6, k7⟩ := wv (by omega) (by omega) h
    refine ⟨k1, ?_, ?_⟩
    ·rcases k2 with rfl | rfl <;> rcases k3 with rfl | rfl
     ·exact .inl k4
     ·exact .inr (.inr (.inr k4))
     ·exact .inr (.inl k4)
     ·exact .inr (.inr (.inl k4))
    ·rcases k5 with rfl | rfl <;> rcases k6 with rfl | rfl
     ·exact .inl k7
     ·exact .inr (.inr (.inr k7))
     ·exact .inr (.inl k7)
     ·exact .inr (.inr (.inl k7))
   ·rintro ⟨k1, k2, k3⟩
    refine AK (by omega) (by omega) k1 ⟨?_, ?_⟩
    ·rcases k2 with h | h | h | h
     ·exact ⟨_, _, .inl rfl, .inl rfl, h⟩
     ·exact ⟨_, _, .inr rfl, .inl rfl, h⟩
     ·exact ⟨_, _, .inr rfl, .inr rfl, h⟩
     ·exact ⟨_, _, .inl rfl, .inr rfl, h⟩
    ·rcases k3 with h | h | h | h
     ·exact ⟨_, _, .inl rfl, .inl rfl, h⟩
     ·exact ⟨_, _, .inr rfl, .inl rfl, h⟩
     ·exact ⟨_, _, .inr rfl, .inr rfl, h⟩
     ·exact ⟨_, _, .inl rfl, .inr rfl, h⟩
 rw [hH]
 unfold bE
 rw [Ez, Ez]
 rw [kg h1 h2 h3 h4 h7 h8 g1 g2, kg h1 h2 h3 h4 h7 h8 g3 g2, kg h1 h2 h3 h4 h7 h8 g3 g4, kg h1 h2 h3 h4 h7 h8 g1 g4]
 generalize nr ax ay bx b2 (2 * X0) (2 * Y0) w = n0
 generalize nr ax ay bx b2 (2 * X1) (2 * Y0) w = n1
 generalize nr ax ay bx b2 (2 * X1) (2 * Y1) w = n2
 generalize nr ax ay bx b2 (2 * X0) (2 * Y1) w = n3
 generalize jo ax ay bx b2 X0 Y0 X1 Y1 = t
 by_cases m1 : u4 ax ay X0 Y0 X1 Y1 <= IntKind.i64.wrap (w * w)
 ·simp only [m1, decide_true]
  cases n0 <;> cases n1 <;> cases n2 <;> cases n3 <;> simp
 ·simp only [m1, decide_false]
  by_cases m2 : u4 bx b2 X0 Y0 X1 Y1 <= IntKind.i64.wrap (w * w)
  ·simp only [m2, decide_true]
   cases n0 <;> cases n1 <;> cases n2 <;> cases n3 <;> simp
  ·simp only [m2, decide_false]
   cases n0 <;> cases n1 <;> cases n2 <;> cases n3 <;> cases t <;> simp
end
theorem pm {p : Nat -> Int} : ∀ n, 0 <= ik p n
 | 0 => Int.le_refl 0
 | n + 1 => by have := pm (p := p) n; simp only [ik]; omega
def pxD (f : Nat -> List V) (i : Nat) : Int := 2 * jv0 (f i)
def pyD (f : Nat -> List V) (i : Nat) : Int := 2 * jv1 (f i)
def OnP (f : Nat -> List V) (w px py k : Int) (i : Nat) : Prop := Nq (pxD f i) (pyD f i) (pxD f (i + 1)) (pyD f (i + 1)) (2 * px) (2 * py) k w
section
variable {n : Nat} {f : Nat -> List V} {w : Int}
theorem tJ (hr : eV n f w) {i : Nat} (hi : i < n - 1) {X0 Y0 X1 Y1 : Int} (g1 : pl X0) (g2 : pl Y0) (g3 : pl X1) (g4 : pl Y1) (hX : X0 <= X1) (hY : Y0 <= Y1) :
 (p61 n f w X0 Y0 X1 Y1 i = 2 ↔ OnP f w X0 Y0 1 i /\ OnP f w X1 Y0 1 i /\ OnP f w X1 Y1 1 i /\ OnP f w X0 Y1 1 i) /\
 (p61 n f w X0 Y0 X1 Y1 i = 0 ↔ ¬ Hit (pxD f i) (pyD f i) (pxD f (i + 1)) (pyD f (i + 1)) (2 * X0) (2 * Y0) (2 * X1) (2 * Y1) w) /\ 0 <= p61 n f w X0 Y0 X1 Y1 i /\ p61 n f w X0 Y0 X1 Y1 i <= 2 := by
 have hj : i + 1 < n := by omega
 obtain ⟨a1, a2⟩ := hr.pts i (by omega)
 obtain ⟨b1, b2⟩ := hr.pts (i + 1) hj
 have := hr.w1
 have := hr.w2
 have hw := w1p (j := i) (n := n) (by omega) hr.eight
 unfold p61
 rw [hw]
 have k := CV (ax := IntKind.i64.wrap (2 * jv0 (f i))) (ay := IntKind.i64.wrap (2 * jv1 (f i))) (bx := IntKind.i64.wrap (2 * jv0 (f (i + 1)))) (b2 := IntKind.i64.wrap (2 * jv1 (f (i + 1)))) (w := w)
  (by rw [(dpt a1).1]; exact (dpt a1).2) (by rw [(dpt a2).1]; exact (dpt a2).2) (by rw [(dpt b1).1]; exact (dpt b1).2) (by rw [(dpt b2).1]; exact (dpt b2).2) g1 g2 g3 g4 hX hY (by omega) (by omega)
 rw [gI (by omega), gI (by omega), gI (by omega), gI (by omega), (dpt a1).1, (dpt a2).1, (dpt b1).1, (dpt b2).1] at k
 unfold OnP pxD pyD
 rw [(dpt a1).1, (dpt a2).1, (dpt b1).1, (dpt b2).1]
 exact k
theorem EB (hr : eV n f w) {i : Nat} (hi : i < n - 1) {x y : Int} (g1 : pl x) (g2 : pl y) : p74 n f w x y i = true ↔ OnP f w x y 1 i := by
 have hj : i + 1 < n := by omega
 obtain ⟨a1, a2⟩ := hr.pts i (by omega)
 obtain ⟨b1, b2⟩ := hr.pts (i + 1) hj
 have := hr.w1
 have := hr.w2
 have hw := w1p (j := i) (n := n) (by omega) hr.eight
 unfold p74 OnP pxD pyD
 rw [hw]
 have s1 : sm (IntKind.i64.wrap (2 * jv0 (f i))) := by rw [(dpt a1).1]; exact (dpt a1).2
 have s2 : sm (IntKind.i64.wrap (2 * jv1 (f i))) := by rw [(dpt a2).1]; exact (dpt a2).2
 have s3 : sm (IntKind.i64.wrap (2 * jv0 (f (i + 1)))) := by rw [(dpt b1).1]; exact (dpt b1).2
 have s4 : sm (IntKind.i64.wrap (2 * jv1 (f (i + 1)))) := by rw [(dpt b2).1]; exact (dpt b2).2
 rw [kg s1 s2 s3 s4 (by omega) (by omega) g1 g2, gI (by omega), (dpt a1).1, (dpt a2).1, (dpt b1).1, (dpt b2).1]
theorem Eh (hr : eV n f w) {X0 Y0 X1 Y1 : Int} (g1 : pl X0) (g2 : pl Y0) (g3 : pl X1) (g4 : pl Y1) (hX : X0 <= X1) (hY : Y0 <= Y1) :
 F61 n f w X0 Y0 X1 Y1 ≠ 0 ↔ ∃ i, i < n - 1 /\ Hit (pxD f i) (pyD f i) (pxD f (i + 1)) (pyD f (i + 1)) (2 * X0) (2 * Y0) (2 * X1) (2 * Y1) w := by
 unfold F61
 constructor
 ·intro h
  apply Classical.byContradiction; intro hn
  apply h
  have : ik (p61 n f w X0 Y0 X1 Y1) (n - 1) <= 0 := mv (Int.le_refl 0) fun i hi => by
   have k := tJ hr hi g1 g2 g3 g4 hX hY
   have := k.2.1.2 fun hh => hn ⟨i, hi, hh⟩
   omega
  have := pm (p := p61 n f w X0 Y0 X1 Y1) (n - 1)
  omega
 ·rintro ⟨i, hi, hh⟩
  have k := tJ hr hi g1 g2 g3 g4 hX hY
  have := qv (p := p61 n f w X0 Y0 X1 Y1) hi
  have h0 : p61 n f w X0 Y0 X1 Y1 i ≠ 0 := fun h => k.2.1.1 h hh
  omega
end
end
end Go.Dx
namespace Go.Dx
open Go.IntKind (i64 u64 u8)
open Go.Sx
noncomputable section
section
variable {ax ay bx b2 r X0 Y0 X1 Y1 : Int}
theorem Al {a b x y : Int} (hr : 0 <= r) (h1 : Nq ax ay bx b2 a y 1 r) (h2 : Nq ax ay bx b2 b y 1 r) (ha : a <= x) (hb : x <= b) : Nq ax ay bx b2 x y 1 r := by
 by_cases e : a = b
 ·rw [show x = a by omega]; exact h1
 ·have h := Nq.cv (j := x - a) (l := b - a) hr (by omega) h1 h2 (by omega) (by omega) (by omega)
  rw [show (b - a - (x - a)) * a + (x - a) * b = (b - a) * x by grind, show (b - a - (x - a)) * y + (x - a) * y = (b - a) * y by grind] at h
  rw [Int.one_mul] at h
  exact (Nq.scale (k := 1) (l := b - a) (by omega)).2 (by rw [Int.mul_one]; exact h)
theorem Gg {a b x y : Int} (hr : 0 <= r) (h1 : Nq ax ay bx b2 x a 1 r) (h2 : Nq ax ay bx b2 x b 1 r) (ha : a <= y) (hb : y <= b) : Nq ax ay bx b2 x y 1 r := by
 by_cases e : a = b
 ·rw [show y = a by omega]; exact h1
 ·have h := Nq.cv (j := y - a) (l := b - a) hr (by omega) h1 h2 (by omega) (by omega) (by omega)
  rw [show (b - a - (y - a)) * a + (y - a) * b = (b - a) * y by grind, show (b - a - (y - a)) * x + (y - a) * x = (b - a) * x by grind] at h
  rw [Int.one_mul] at h
  exact (Nq.scale (k := 1) (l := b - a) (by omega)).2 (by rw [Int.mul_one]; exact h)
theorem Hit.sub {U0 V0 U1 V1 : Int} (h : Hit ax ay bx b2 X0 Y0 X1 Y1 r) (a1 : U0 <= X0) (a2 : X1 <= U1) (b1 : V0 <= Y0) (b2' : Y1 <= V1) : Hit ax ay bx b2 U0 V0 U1 V1 r := by
 obtain ⟨px, py, k, hk, h1, h2, h3⟩ := h
 have hk0 := Int.le_of_lt hk
 have := iml a1 hk0
 have := iml a2 hk0
 have := iml b1 hk0
 have := iml b2' hk0
 exact ⟨px, py, k, hk, by omega, by omega, h3⟩
theorem Hit.pt {x y : Int} (h : Hit ax ay bx b2 x y x y r) : Nq ax ay bx b2 x y 1 r := by
 obtain ⟨px, py, k, hk, h1, h2, h3⟩ := h
 refine (Nq.scale (k := 1) hk).2 ?_
 rw [Int.mul_one, show k * x = px by omega, show k * y = py by omega]
 exact h3
theorem Hit.of {x y : Int} (h : Nq ax ay bx b2 x y 1 r) (a1 : X0 <= x) (a2 : x <= X1) (b1 : Y0 <= y) (b2' : y <= Y1) : Hit ax ay bx b2 X0 Y0 X1 Y1 r := ⟨x, y, 1, by omega, by omega, by omega, h⟩
theorem Nq.wide {px py k s : Int} (hr : 0 <= r) (hs : r <= s) (hk : 0 < k) (h : Nq ax ay bx b2 px py k r) : Nq ax ay bx b2 px py k s := by
 obtain ⟨n, m, h1, h2, h3, h4⟩ := h
 have hmk : 0 <= m * k := Int.le_of_lt (Int.mul_pos h3 hk)
 exact ⟨n, m, h1, h2, h3, Int.le_trans h4 (Int.mul_le_mul (iml hs hmk) (iml hs hmk) (imn hmk hr) (imn hmk (Int.le_trans hr hs)))⟩
end
section
variable {n : Nat} {f : Nat -> List V} {w X0 Y0 X1 Y1 : Int}
theorem OnP.all {x y : Int} {i : Nat} (hw : 0 <= w) (h : OnP f w X0 Y0 1 i /\ OnP f w X1 Y0 1 i /\ OnP f w X1 Y1 1 i /\ OnP f w X0 Y1 1 i) (a1 : X0 <= x) (a2 : x <= X1) (b1 : Y0 <= y) (b2 : y <= Y1) : OnP f w x y 1 i :=
 Gg hw (Al hw h.1 h.2.1 (by omega) (by omega)) (Al hw h.2.2.2 h.2.2.1 (by omega) (by omega)) (by omega) (by omega)
theorem EV (hr : eV n f w) (g1 : pl X0) (g2 : pl Y0) (g3 : pl X1) (g4 : pl Y1) (hX : X0 <= X1) (hY : Y0 <= Y1) :
 (F61 n f w X0 Y0 X1 Y1 = 2 ↔ ∃ i, i < n - 1 /\ OnP f w X0 Y0 1 i /\ OnP f w X1 Y0 1 i /\ OnP f w X1 Y1 1 i /\ OnP f w X0 Y1 1 i) /\ 0 <= F61 n f w X0 Y0 X1 Y1 /\ F61 n f w X0 Y0 X1 Y1 <= 2 := by
 unfold F61
 have hle : ik (p61 n f w X0 Y0 X1 Y1) (n - 1) <= 2 := mv (by decide) fun i hi => (tJ hr hi g1 g2 g3 g4 hX hY).2.2.2
 refine ⟨⟨fun h => ?_, ?_⟩, pm _, hle⟩
 ·apply Classical.byContradiction; intro hn
  have : ik (p61 n f w X0 Y0 X1 Y1) (n - 1) <= 1 := mv (by decide) fun i hi => by
   have k := tJ hr hi g1 g2 g3 g4 hX hY
   have := k.2.2.2
   have h0 : p61 n f w X0 Y0 X1 Y1 i ≠ 2 := fun h => hn ⟨i, hi, k.1.1 h⟩
   omega
  omega
 ·rintro ⟨i, hi, hh⟩
  have := qv (p := p61 n f w X0 Y0 X1 Y1) hi
  have := (tJ hr hi g1 g2 g3 g4 hX hY).1.2 hh
  omega
theorem EA (hr : eV n f w) {x y : Int} (g1 : pl x) (g2 : pl y) : F74 n f w x y = true ↔ ∃ i, i < n - 1 /\ OnP f w x y 1 i := by
 unfold F74
 rw [kz]
 exact ⟨fun ⟨i, hi, h⟩ => ⟨i, hi, (EB hr hi g1 g2).1 h⟩, fun ⟨i, hi, h⟩ => ⟨i, hi, (EB hr hi g1 g2).2 h⟩⟩
end
end
end Go.Dx
