/- Part 6 of a proof. No conditions. -/
import Derived.Test.YtkdokmjehblpoaaGreatDoorRm5
set_option maxRecDepth 100000
set_option linter.unusedVariables false
set_option linter.unusedSimpArgs false
namespace Go.Dx
open Go.Sx
noncomputable section
section
variable {ax ay bx b2 w X0 Y0 X1 Y1 : Int}
theorem xY (h1 : sm ax) (h2 : sm ay) (g1 : pl X0) (g2 : pl Y0) (g3 : pl X1) (g4 : pl Y1) (h7 : 0 <= w) (h8 : w <= 1073741824) : u7 ax ay X0 Y0 X1 Y1 <= IntKind.i64.wrap (w * w) ↔ ln ax ay (2 * X0) (2 * Y0) (2 * X1) (2 * Y1) w := by
 unfold u7 ln q2
 rw [(dbl g1).1, (dbl g2).1, (dbl g3).1, (dbl g4).1]
 unfold sm at h1 h2
 unfold pl at g1 g2 g3 g4
 rw [av (x := 2 * X0 - ax) (by omega) (by omega), av (x := ax - 2 * X1) (by omega) (by omega), av (x := 2 * Y0 - ay) (by omega) (by omega), av (x := ay - 2 * Y1) (by omega) (by omega)]
 rw [Int.max_comm 0 (2 * X0 - ax), Int.max_comm 0 (2 * Y0 - ay)]
 have p0 : 0 <= max (max (2 * X0 - ax) 0) (ax - 2 * X1) /\ max (max (2 * X0 - ax) 0) (ax - 2 * X1) <= 1073741824 := by omega
 have q0 : 0 <= max (max (2 * Y0 - ay) 0) (ay - 2 * Y1) /\ max (max (2 * Y0 - ay) 0) (ay - 2 * Y1) <= 1073741824 := by omega
 generalize max (max (2 * X0 - ax) 0) (ax - 2 * X1) = p at p0 ⊢
 generalize max (max (2 * Y0 - ay) 0) (ay - 2 * Y1) = q at q0 ⊢
 have hr := j8 (x := w) (y := w) (A := 1073741824) (B := 1073741824) (by omega) h8 (by omega) h8
 have hp := j8 (x := p) (y := p) (A := 1073741824) (B := 1073741824) (by omega) p0.2 (by omega) p0.2
 have hq := j8 (x := q) (y := q) (A := 1073741824) (B := 1073741824) (by omega) q0.2 (by omega) q0.2
 rw [av (x := w * w) (by omega) (by omega), av (x := p * p) (by omega) (by omega), av (x := q * q) (by omega) (by omega), av (x := p * p + q * q) (by omega) (by omega)]
theorem Ea (h1 : sm ax) (h2 : sm ay) (h3 : sm bx) (h4 : sm b2) (g1 : pl X0) (g2 : pl Y0) (g3 : pl X1) (g4 : pl Y1) (hX : X0 <= X1) (hY : Y0 <= Y1) (h7 : 0 <= w) (h8 : w <= 1073741824) :
 (bF ax ay bx b2 w X0 Y0 X1 Y1 = 2 ↔ nr ax ay bx b2 (2 * X0) (2 * Y0) w = true /\ nr ax ay bx b2 (2 * X1) (2 * Y0) w = true /\ nr ax ay bx b2 (2 * X1) (2 * Y1) w = true /\ nr ax ay bx b2 (2 * X0) (2 * Y1) w = true) /\
 (bF ax ay bx b2 w X0 Y0 X1 Y1 = 0 ↔ ¬ Hit ax ay bx b2 (2 * X0) (2 * Y0) (2 * X1) (2 * Y1) w) /\ 0 <= bF ax ay bx b2 w X0 Y0 X1 Y1 /\ bF ax ay bx b2 w X0 Y0 X1 Y1 <= 2 := by
 have hH : Hit ax ay bx b2 (2 * X0) (2 * Y0) (2 * X1) (2 * Y1) w ↔ (nr ax ay bx b2 (2 * X0) (2 * Y0) w = true ∨ nr ax ay bx b2 (2 * X1) (2 * Y0) w = true ∨ nr ax ay bx b2 (2 * X1) (2 * Y1) w = true ∨ nr ax ay bx b2 (2 * X0) (2 * Y1) w = true) ∨ u7 ax ay X0 Y0 X1 Y1 <= IntKind.i64.wrap (w * w) ∨ u7 bx b2 X0 Y0 X1 Y1 <= IntKind.i64.wrap (w * w) ∨ ja ax ay bx b2 X0 Y0 X1 Y1 = true := by
  rw [E0 h7 (by omega) (by omega), xY h1 h2 g1 g2 g3 g4 h7 h8, xY h3 h4 g1 g2 g3 g4 h7 h8, K5 h1 h2 h3 h4 g1 g2 g3 g4]
  unfold Res
  refine or_congr ?_ (or_congr Iff.rfl (or_congr Iff.rfl ?_))
  ·rw [fY h7, fY h7, fY h7, fY h7]
   constructor
   ·rintro ⟨cx, cy, rfl | rfl, rfl | rfl, h⟩
    ·exact .inl h
    ·exact .inr (.inr (.inr h))
    ·exact .inr (.inl h)
    ·exact .inr (.inr (.inl h))
   ·rintro (h | h | h | h)
    ·exact ⟨_, _, .inl rfl, .inl rfl, h⟩
    ·exact ⟨_, _, .inr rfl, .inl rfl, h⟩
    ·exact ⟨_, _, .inr rfl, .inr rfl, h⟩
    ·exact ⟨_, _, .inl rfl, .inr rfl, h⟩
  ·constructor
   ·intro h
    obtain ⟨k1, ⟨cx, cy, k2, k3, k4⟩, dx, dy, k5, k6, k7⟩ := wE (by omega) (by omega) h
    refine ⟨k1, ?_, ?_⟩
    ·rcases k2 with rfl | rfl <;> rcases k3 with rfl | rfl
     ·exact .inl k4
     ·exact .inr (.inr (.inr k4))
     ·exact .inr (.inl k4)
     ·exact .inr (.inr (.inl k4))
    ·rcases k5 with rfl | rfl <;> rcases k6 with rfl | rfl
     ·exact .inl k7
     ·exact .inr (.inr (.inr k7))
     ·exact .inr (.inl k7)
     ·exact .inr (.inr (.inl k7))
   ·rintro ⟨k1, k2, k3⟩
    refine CQ (by omega) (by omega) k1 ⟨?_, ?_⟩
    ·rcases k2 with h | h | h | h
     ·exact ⟨_, _, .inl rfl, .inl rfl, h⟩
     ·exact ⟨_, _, .inr rfl, .inl rfl, h⟩
     ·exact ⟨_, _, .inr rfl, .inr rfl, h⟩
     ·exact ⟨_, _, .inl rfl, .inr rfl, h⟩
    ·rcases k3 with h | h | h | h
     ·exact ⟨_, _, .inl rfl, .inl rfl, h⟩
     ·exact ⟨_, _, .inr rfl, .inl rfl, h⟩
     ·exact ⟨_, _, .inr rfl, .inr rfl, h⟩
     ·exact ⟨_, _, .inl rfl, .inr rfl, h⟩
 rw [hH]
 unfold bF
 rw [Fl, Fl]
 rw [j0 h1 h2 h3 h4 h7 h8 g1 g2, j0 h1 h2 h3 h4 h7 h8 g3 g2, j0 h1 h2 h3 h4 h7 h8 g3 g4, j0 h1 h2 h3 h4 h7 h8 g1 g4]
 generalize nr ax ay bx b2 (2 * X0) (2 * Y0) w = n0
 generalize nr ax ay bx b2 (2 * X1) (2 * Y0) w = n1
 generalize nr ax ay bx b2 (2 * X1) (2 * Y1) w = n2
 generalize nr ax ay bx b2 (2 * X0) (2 * Y1) w = n3
 generalize ja ax ay bx b2 X0 Y0 X1 Y1 = t
 by_cases m1 : u7 ax ay X0 Y0 X1 Y1 <= IntKind.i64.wrap (w * w)
 ·simp only [m1, decide_true]
  cases n0 <;> cases n1 <;> cases n2 <;> cases n3 <;> simp
 ·simp only [m1, decide_false]
  by_cases m2 : u7 bx b2 X0 Y0 X1 Y1 <= IntKind.i64.wrap (w * w)
  ·simp only [m2, decide_true]
   cases n0 <;> cases n1 <;> cases n2 <;> cases n3 <;> simp
  ·simp only [m2, decide_false]
   cases n0 <;> cases n1 <;> cases n2 <;> cases n3 <;> cases t <;> simp
end
theorem pz {p : Nat -> Int} : ∀ n, 0 <= gS p n
 | 0 => Int.le_refl 0
 | n + 1 => by have := pz (p := p) n; simp only [gS]; omega
def pxD (f : Nat -> List V) (i : Nat) : Int := 2 * jv0 (f i)
def pyD (f : Nat -> List V) (i : Nat) : Int := 2 * jv1 (f i)
def OnP (f : Nat -> List V) (w px py k : Int) (i : Nat) : Prop := Nq (pxD f i) (pyD f i) (pxD f (i + 1)) (pyD f (i + 1)) (2 * px) (2 * py) k w
section
variable {n : Nat} {f : Nat -> List V} {w : Int}
theorem uo (hr : ej n f w) {i : Nat} (hi : i < n - 1) {X0 Y0 X1 Y1 : Int} (g1 : pl X0) (g2 : pl Y0) (g3 : pl X1) (g4 : pl Y1) (hX : X0 <= X1) (hY : Y0 <= Y1) :
 (p61 n f w X0 Y0 X1 Y1 i = 2 ↔ OnP f w X0 Y0 1 i /\ OnP f w X1 Y0 1 i /\ OnP f w X1 Y1 1 i /\ OnP f w X0 Y1 1 i) /\
 (p61 n f w X0 Y0 X1 Y1 i = 0 ↔ ¬ Hit (pxD f i) (pyD f i) (pxD f (i + 1)) (pyD f (i + 1)) (2 * X0) (2 * Y0) (2 * X1) (2 * Y1) w) /\ 0 <= p61 n f w X0 Y0 X1 Y1 i /\ p61 n f w X0 Y0 X1 Y1 i <= 2 := by
 have hj : i + 1 < n := by omega
 obtain ⟨a1, a2⟩ := hr.pts i (by omega)
 obtain ⟨b1, b2⟩ := hr.pts (i + 1) hj
 have := hr.w1
 have := hr.w2
 have hw := w1p (j := i) (n := n) (by omega) hr.eight
 unfold p61
 rw [hw]
 have k := Ea (ax := IntKind.i64.wrap (2 * jv0 (f i))) (ay := IntKind.i64.wrap (2 * jv1 (f i))) (bx := IntKind.i64.wrap (2 * jv0 (f (i + 1)))) (b2 := IntKind.i64.wrap (2 * jv1 (f (i + 1)))) (w := w)
  (by rw [(dpt a1).1]; exact (dpt a1).2) (by rw [(dpt a2).1]; exact (dpt a2).2) (by rw [(dpt b1).1]; exact (dpt b1).2) (by rw [(dpt b2).1]; exact (dpt b2).2) g1 g2 g3 g4 hX hY (by omega) (by omega)
 rw [fY (by omega), fY (by omega), fY (by omega), fY (by omega), (dpt a1).1, (dpt a2).1, (dpt b1).1, (dpt b2).1] at k
 unfold OnP pxD pyD
 rw [(dpt a1).1, (dpt a2).1, (dpt b1).1, (dpt b2).1]
 exact k
theorem E1 (hr : ej n f w) {i : Nat} (hi : i < n - 1) {x y : Int} (g1 : pl x) (g2 : pl y) : p74 n f w x y i = true ↔ OnP f w x y 1 i := by
 have hj : i + 1 < n := by omega
 obtain ⟨a1, a2⟩ := hr.pts i (by omega)
 obtain ⟨b1, b2⟩ := hr.pts (i + 1) hj
 have := hr.w1
 have := hr.w2
 have hw := w1p (j := i) (n := n) (by omega) hr.eight
 unfold p74 OnP pxD pyD
 rw [hw]
 have s1 : sm (IntKind.i64.wrap (2 * jv0 (f i))) := by rw [(dpt a1).1]; exact (dpt a1).2
 have s2 : sm (IntKind.i64.wrap (2 * jv1 (f i))) := by rw [(dpt a2).1]; exact (dpt a2).2
 have s3 : sm (IntKind.i64.wrap (2 * jv0 (f (i + 1)))) := by rw [(dpt b1).1]; exact (dpt b1).2
 have s4 : sm (IntKind.i64.wrap (2 * jv1 (f (i + 1)))) := by rw [(dpt b2).1]; exact (dpt b2).2
 rw [j0 s1 s2 s3 s4 (by omega) (by omega) g1 g2, fY (by omega), (dpt a1).1, (dpt a2).1, (dpt b1).1, (dpt b2).1]
theorem Fc (hr : ej n f w) {X0 Y0 X1 Y1 : Int} (g1 : pl X0) (g2 : pl Y0) (g3 : pl X1) (g4 : pl Y1) (hX : X0 <= X1) (hY : Y0 <= Y1) :
 F61 n f w X0 Y0 X1 Y1 ≠ 0 ↔ ∃ i, i < n - 1 /\ Hit (pxD f i) (pyD f i) (pxD f (i + 1)) (pyD f (i + 1)) (2 * X0) (2 * Y0) (2 * X1) (2 * Y1) w := by
 unfold F61
 constructor
 ·intro h
  apply Classical.byContradiction; intro hn
  apply h
  have : gS (p61 n f w X0 Y0 X1 Y1) (n - 1) <= 0 := lW (Int.le_refl 0) fun i hi => by
   have k := uo hr hi g1 g2 g3 g4 hX hY
   have := k.2.1.2 fun hh => hn ⟨i, hi, hh⟩
   omega
  have := pz (p := p61 n f w X0 Y0 X1 Y1) (n - 1)
  omega
 ·rintro ⟨i, hi, hh⟩
  have k := uo hr hi g1 g2 g3 g4 hX hY
  have := qo (p := p61 n f w X0 Y0 X1 Y1) hi
  have h0 : p61 n f w X0 Y0 X1 Y1 i ≠ 0 := fun h => k.2.1.1 h hh
  omega
end
end
end Go.Dx
namespace Go.Dx
open Go.IntKind (i64 u64 u8)
open Go.Sx
noncomputable section
section
variable {ax ay bx b2 r X0 Y0 X1 Y1 : Int}
theorem Df {a b x y : Int} (hr : 0 <= r) (h1 : Nq ax ay bx b2 a y 1 r) (h2 : Nq ax ay bx b2 b y 1 r) (ha : a <= x) (hb : x <= b) : Nq ax ay bx b2 x y 1 r := by
 by_cases e : a = b
 ·rw [show x = a by omega]; exact h1
 ·have h := Nq.cv (j := x - a) (l := b - a) hr (by omega) h1 h2 (by omega) (by omega) (by omega)
  rw [show (b - a - (x - a)) * a + (x - a) * b = (b - a) * x by grind, show (b - a - (x - a)) * y + (x - a) * y = (b - a) * y by grind] at h
  rw [Int.one_mul] at h
  exact (Nq.scale (k := 1) (l := b - a) (by omega)).2 (by rw [Int.mul_one]; exact h)
theorem Hl {a b x y : Int} (hr : 0 <= r) (h1 : Nq ax ay bx b2 x a 1 r) (h2 : Nq ax ay bx b2 x b 1 r) (ha : a <= y) (hb : y <= b) : Nq ax ay bx b2 x y 1 r := by
 by_cases e : a = b
 ·rw [show y = a by omega]; exact h1
 ·have h := Nq.cv (j := y - a) (l := b - a) hr (by omega) h1 h2 (by omega) (by omega) (by omega)
  rw [show (b - a - (y - a)) * a + (y - a) * b = (b - a) * y by grind, show (b - a - (y - a)) * x + (y - a) * x = (b - a) * x by grind] at h
  rw [Int.one_mul] at h
  exact (Nq.scale (k := 1) (l := b - a) (by omega)).2 (by rw [Int.mul_one]; exact h)
theorem Hit.sub {U0 V0 U1 V1 : Int} (h : Hit ax ay bx b2 X0 Y0 X1 Y1 r) (a1 : U0 <= X0) (a2 : X1 <= U1) (b1 : V0 <= Y0) (b2' : Y1 <= V1) : Hit ax ay bx b2 U0 V0 U1 V1 r := by
 obtain ⟨px, py, k, hk, h1, h2, h3⟩ := h
 have hk0 := Int.le_of_lt hk
 have := iml a1 hk0
 have := iml a2 hk0
 have := iml b1 hk0
 have := iml b2' hk0
 exact ⟨px, py, k, hk, by omega, by omega, h3⟩
theorem Hit.pt {x y : Int} (h : Hit ax ay bx b2 x y x y r) : Nq ax ay bx b2 x y 1 r := by
 obtain ⟨px, py, k, hk, h1, h2, h3⟩ := h
 refine (Nq.scale (k := 1) hk).2 ?_
 rw [Int.mul_one, show k * x = px by omega, show k * y = py by omega]
 exact h3
theorem Hit.of {x y : Int} (h : Nq ax ay bx b2 x y 1 r) (a1 : X0 <= x) (a2 : x <= X1) (b1 : Y0 <= y) (b2' : y <= Y1) : Hit ax ay bx b2 X0 Y0 X1 Y1 r := ⟨x, y, 1, by omega, by omega, by omega, h⟩
theorem Nq.wide {px py k s : Int} (hr : 0 <= r) (hs : r <= s) (hk : 0 < k) (h : Nq ax ay bx b2 px py k r) : Nq ax ay bx b2 px py k s := by
 obtain ⟨n, m, h1, h2, h3, h4⟩ := h
 have hmk : 0 <= m * k := Int.le_of_lt (Int.mul_pos h3 hk)
 exact ⟨n, m, h1, h2, h3, Int.le_trans h4 (Int.mul_le_mul (iml hs hmk) (iml hs hmk) (imn hmk hr) (imn hmk (Int.le_trans hr hs)))⟩
end
section
variable {n : Nat} {f : Nat -> List V} {w X0 Y0 X1 Y1 : Int}
theorem OnP.all {x y : Int} {i : Nat} (hw : 0 <= w) (h : OnP f w X0 Y0 1 i /\ OnP f w X1 Y0 1 i /\ OnP f w X1 Y1 1 i /\ OnP f w X0 Y1 1 i) (a1 : X0 <= x) (a2 : x <= X1) (b1 : Y0 <= y) (b2 : y <= Y1) : OnP f w x y 1 i :=
 Hl hw (Df hw h.1 h.2.1 (by omega) (by omega)) (Df hw h.2.2.2 h.2.2.1 (by omega) (by omega)) (by omega) (by omega)
theorem FC (hr : ej n f w) (g1 : pl X0) (g2 : pl Y0) (g3 : pl X1) (g4 : pl Y1) (hX : X0 <= X1) (hY : Y0 <= Y1) :
 (F61 n f w X0 Y0 X1 Y1 = 2 ↔ ∃ i, i < n - 1 /\ OnP f w X0 Y0 1 i /\ OnP f w X1 Y0 1 i /\ OnP f w X1 Y1 1 i /\ OnP f w X0 Y1 1 i) /\ 0 <= F61 n f w X0 Y0 X1 Y1 /\ F61 n f w X0 Y0 X1 Y1 <= 2 := by
 unfold F61
 have hle : gS (p61 n f w X0 Y0 X1 Y1) (n - 1) <= 2 := lW (by decide) fun i hi => (uo hr hi g1 g2 g3 g4 hX hY).2.2.2
 refine ⟨⟨fun h => ?_, ?_⟩, pz _, hle⟩
 ·apply Classical.byContradiction; intro hn
  have : gS (p61 n f w X0 Y0 X1 Y1) (n - 1) <= 1 := lW (by decide) fun i hi => by
   have k := uo hr hi g1 g2 g3 g4 hX hY
   have := k.2.2.2
   have h0 : p61 n f w X0 Y0 X1 Y1 i ≠ 2 := fun h => hn ⟨i, hi, k.1.1 h⟩
   omega
  omega
 ·rintro ⟨i, hi, hh⟩
  have := qo (p := p61 n f w X0 Y0 X1 Y1) hi
  have := (uo hr hi g1 g2 g3 g4 hX hY).1.2 hh
  omega
theorem Fj (hr : ej n f w) {x y : Int} (g1 : pl x) (g2 : pl y) : F74 n f w x y = true ↔ ∃ i, i < n - 1 /\ OnP f w x y 1 i := by
 unfold F74
 rw [ks]
 exact ⟨fun ⟨i, hi, h⟩ => ⟨i, hi, (E1 hr hi g1 g2).1 h⟩, fun ⟨i, hi, h⟩ => ⟨i, hi, (E1 hr hi g1 g2).2 h⟩⟩
end
end
noncomputable section
theorem kB {a l h : Int} (h1 : l <= a) (h2 : a <= h) : dX a l h = true := by unfold dX; simp [h1, h2]
theorem Cd {a b c d : Int} (ha : -100000 <= a /\ a <= 100000) (hb : -100000 <= b /\ b <= 100000) (hc : -100000 <= c /\ c <= 100000) (hd : -100000 <= d /\ d <= 100000) (h1 : a <= c) (h2 : b <= d) : fh a b c d = true := by
 have hp : F51 4 (elV tp1 (bn [vi a, vi b, vi c, vi d] 0 1)) = true := by
  unfold F51
  refine jh fun i hi => ?_
  match i, hi with
  | 0, _ => exact kB ha.1 ha.2
  | 1, _ => exact kB hb.1 hb.2
  | 2, _ => exact kB hc.1 hc.2
  | 3, _ => exact kB hd.1 hd.2
 unfold fh
 rw [hp, dqt h1, dqt h2]; rfl
theorem K4 {x y : Int} (hx : -100000 <= x /\ x <= 100000) (hy : -100000 <= y /\ y <= 100000) : fG x y = true := by
 unfold fG F51
 refine jh fun i hi => ?_
 match i, hi with
 | 0, _ => exact kB hx.1 hx.2
 | 1, _ => exact kB hy.1 hy.2
section
variable {n0 : Nat} {f0 : Nat -> List V} {n2 : Nat} {f2 : Nat -> List V} {n4 : Nat} {f4 : Nat -> List V} {n6 : Nat} {f6 : Nat -> List V} {x8 : Int}
abbrev rN (f0 : FnV) (i : Int) : Nat := bR (hdV (tlV (tlV (f0 i.toNat))))
abbrev rF (f0 : FnV) (i : Int) : Nat -> List V := fun j => aq tp2 (atV (hdV (tlV (tlV (f0 i.toNat)))) j)
abbrev rW (f0 : FnV) (i : Int) : Int := jv3 (f0 i.toNat)
theorem oM {a b c d : Int} : iL n0 f0 n2 f2 n4 f4 n6 f6 x8 a b c d = (bif dE n0 f0 n2 f2 n4 f4 n6 f6 x8 n0 != 0 then dE n0 f0 n2 f2 n4 f4 n6 f6 x8 n0 else bif !fh a b c d then 7 else 0) /\
 (dE n0 f0 n2 f2 n4 f4 n6 f6 x8 n0 = 0 -> fh a b c d = true -> jF n0 f0 n2 f2 n4 f4 n6 f6 x8 a b c d = F61 (rN f0 x8) (rF f0 x8) (rW f0 x8) a b c d /\ ej (rN f0 x8) (rF f0 x8) (rW f0 x8)) /\ (dE n0 f0 n2 f2 n4 f4 n6 f6 x8 n0 ≠ 0 -> jF n0 f0 n2 f2 n4 f4 n6 f6 x8 a b c d = 0) := by
 have hc := Ce (n0 := n0) (f0 := f0) (n2 := n2) (f2 := f2) (n4 := n4) (f4 := f4) (n6 := n6) (f6 := f6) (i := x8) (m := n0) (fun h => by have := (dK h).l0; omega)
 unfold jF iL dE
 rw [hc, qG]
 refine ⟨rfl, fun he hp => ?_, fun he => ?_⟩
 ·rw [he, hp]; exact ⟨rfl, yB he⟩
 ·rw [show (ix1 (bW n0 (elV tyR f0) n2 (elV tyT f2) n4 (elV tyF f4) n6 (elV tyC f6)) x8 (n0 : Int) != 0) = true from by simpa using he]; rfl
theorem EF {x y : Int} : iC n0 f0 n2 f2 n4 f4 n6 f6 x8 x y = (bif dE n0 f0 n2 f2 n4 f4 n6 f6 x8 n0 != 0 then dE n0 f0 n2 f2 n4 f4 n6 f6 x8 n0 else bif !fG x y then 7 else 0) /\
 (dE n0 f0 n2 f2 n4 f4 n6 f6 x8 n0 = 0 -> fG x y = true -> jR n0 f0 n2 f2 n4 f4 n6 f6 x8 x y = F74 (rN f0 x8) (rF f0 x8) (rW f0 x8) x y /\ ej (rN f0 x8) (rF f0 x8) (rW f0 x8)) := by
 have hc := Ce (n0 := n0) (f0 := f0) (n2 := n2) (f2 := f2) (n4 := n4) (f4 := f4) (n6 := n6) (f6 := f6) (i := x8) (m := n0) (fun h => by have := (dK h).l0; omega)
 unfold jR iC dE
 rw [hc, c4]
 refine ⟨rfl, fun he hp => ?_⟩
 have hp' : F51 2 (elV tp1 (bn [vi x, vi y] 0 1)) = true := hp
 rw [he, hp']; exact ⟨rfl, yB he⟩
theorem EC {a b c d : Int} (h : fh a b c d = true) : iL n0 f0 n2 f2 n4 f4 n6 f6 x8 a b c d = dE n0 f0 n2 f2 n4 f4 n6 f6 x8 n0 := by
 rw [oM.1, h]
 cases he : dE n0 f0 n2 f2 n4 f4 n6 f6 x8 n0 != 0 with
 | true => rfl
 | false => have : dE n0 f0 n2 f2 n4 f4 n6 f6 x8 n0 = 0 := by simpa using he
            rw [this]; rfl
theorem Mh {x y : Int} (h : fG x y = true) : iC n0 f0 n2 f2 n4 f4 n6 f6 x8 x y = dE n0 f0 n2 f2 n4 f4 n6 f6 x8 n0 := by
 rw [EF.1, h]
 cases he : dE n0 f0 n2 f2 n4 f4 n6 f6 x8 n0 != 0 with
 | true => rfl
 | false => have : dE n0 f0 n2 f2 n4 f4 n6 f6 x8 n0 = 0 := by simpa using he
            rw [this]; rfl
theorem DE {a b c d : Int} (h : fh a b c d = true) : fx n0 f0 n2 f2 n4 f4 n6 f6 x8 a b c d = dE n0 f0 n2 f2 n4 f4 n6 f6 x8 n6 := by
 rw [td.1, h]
 cases he : dE n0 f0 n2 f2 n4 f4 n6 f6 x8 n6 != 0 with
 | true => rfl
 | false => have : dE n0 f0 n2 f2 n4 f4 n6 f6 x8 n6 = 0 := by simpa using he
            rw [this]; rfl
theorem Cn {x y : Int} (h : fG x y = true) : iu n0 f0 n2 f2 n4 f4 n6 f6 x8 x y = dE n0 f0 n2 f2 n4 f4 n6 f6 x8 n6 := by
 rw [lX.1, h]
 cases he : dE n0 f0 n2 f2 n4 f4 n6 f6 x8 n6 != 0 with
 | true => rfl
 | false => have : dE n0 f0 n2 f2 n4 f4 n6 f6 x8 n6 = 0 := by simpa using he
            rw [this]; rfl
theorem zE {a b c d : Int} (he : dE n0 f0 n2 f2 n4 f4 n6 f6 x8 n6 = 0) (hp : fh a b c d = true) : (eF n0 f0 n2 f2 n4 f4 n6 f6 x8 a b c d = 0 ↔ ∀ i, i < n2 -> ¬ CC f2 f6 x8 i a b c d) /\
 (eF n0 f0 n2 f2 n4 f4 n6 f6 x8 a b c d = 2 ↔ ∃ i, i < n2 /\ (shA f2 f6 x8 i a b /\ shA f2 f6 x8 i c b /\ shA f2 f6 x8 i c d /\ shA f2 f6 x8 i a d)) /\ 0 <= eF n0 f0 n2 f2 n4 f4 n6 f6 x8 a b c d /\ eF n0 f0 n2 f2 n4 f4 n6 f6 x8 a b c d <= 2 := by
 obtain ⟨D, T, e, h⟩ := td.2 he hp
 obtain ⟨p1, p2, p3, p4, p5, p6⟩ := gC hp
 rw [e]
 unfold tH
 have dt : ∀ i, i < n2 -> D i = true -> T i = true := fun i hi hd => by
  have := ((h i hi).1.1 hd).1
  exact (h i hi).2.2 ⟨this.1, Tou.of this.2 (by omega) (by omega) (by omega) (by omega)⟩
 cases hD : exB n2 D with
 | true =>
   obtain ⟨i, hi, hd⟩ := ks.1 hD
   refine ⟨⟨fun h => by simp at h, fun hn => ?_⟩, ⟨fun _ => ⟨i, hi, (h i hi).1.1 hd⟩, fun _ => rfl⟩, by simp, by simp⟩
   exact absurd ((h i hi).2.1 (dt i hi hd)) (hn i hi)
 | false =>
   have nD : ¬ ∃ i, i < n2 /\ (shA f2 f6 x8 i a b /\ shA f2 f6 x8 i c b /\ shA f2 f6 x8 i c d /\ shA f2 f6 x8 i a d) := fun ⟨i, hi, hh⟩ => by
    rw [bD i hi ((h i hi).1.2 hh)] at hD; cases hD
   cases hT : exB n2 T with
   | true =>
     obtain ⟨i, hi, ht⟩ := ks.1 hT
     exact ⟨⟨fun h => by simp at h, fun hn => absurd ((h i hi).2.1 ht) (hn i hi)⟩, ⟨fun h => by simp at h, fun h => absurd h nD⟩, by simp, by simp⟩
   | false =>
     refine ⟨⟨fun _ i hi hh => ?_, fun _ => rfl⟩, ⟨fun h => by simp at h, fun h => absurd h nD⟩, by simp, by simp⟩
     rw [bD i hi ((h i hi).2.2 hh)] at hT; cases hT
end
end
noncomputable section
def mx (t : Bool) (x y : Int) : Int := bif t then -y else x
def my (t : Bool) (x y : Int) : Int := bif t then x else y
theorem E8 (t : Bool) (x y : Int) : q2 (mx t x y) (my t x y) = q2 x y := by
 cases t with
 | false => rfl
 | true => show q2 (-y) x = q2 x y; rw [nh, eQ]
section
variable {t : Bool} {u v ax ay bx b2 px py k r X0 Y0 X1 Y1 : Int}
theorem Nq.mv : Nq (mx t ax ay + u) (my t ax ay + v) (mx t bx b2 + u) (my t bx b2 + v) (mx t px py + k * u) (my t px py + k * v) k r ↔ Nq ax ay bx b2 px py k r := by
 unfold Nq At
 refine exists_congr fun n => exists_congr fun m => ?_
 have e : q2 (m * (mx t px py + k * u) - k * ((m - n) * (mx t ax ay + u) + n * (mx t bx b2 + u))) (m * (my t px py + k * v) - k * ((m - n) * (my t ax ay + v) + n * (my t bx b2 + v))) = q2 (m * px - k * ((m - n) * ax + n * bx)) (m * py - k * ((m - n) * ay + n * b2)) := by
  refine Eq.trans ?_ (E8 t _ _)
  congr 1
  ·cases t <;> simp only [mx, cond_true, cond_false] <;> grind
  ·cases t <;> simp only [my, cond_true, cond_false] <;> grind
 rw [e]
def rX0 (t : Bool) (u X0 Y0 X1 Y1 : Int) : Int := min (mx t X0 Y0 + u) (mx t X1 Y1 + u)
def rY0 (t : Bool) (v X0 Y0 X1 Y1 : Int) : Int := min (my t X0 Y0 + v) (my t X1 Y1 + v)
def rX1 (t : Bool) (u X0 Y0 X1 Y1 : Int) : Int := max (mx t X0 Y0 + u) (mx t X1 Y1 + u)
def rY1 (t : Bool) (v X0 Y0 X1 Y1 : Int) : Int := max (my t X0 Y0 + v) (my t X1 Y1 + v)
theorem xA (hX : X0 <= X1) (hY : Y0 <= Y1) : rX0 true u X0 Y0 X1 Y1 = -Y1 + u /\ rY0 true v X0 Y0 X1 Y1 = X0 + v /\ rX1 true u X0 Y0 X1 Y1 = -Y0 + u /\ rY1 true v X0 Y0 X1 Y1 = X1 + v := by
 unfold rX0 rY0 rX1 rY1 mx my
 simp only [cond_true]
 omega
theorem xp (hX : X0 <= X1) (hY : Y0 <= Y1) : rX0 false u X0 Y0 X1 Y1 = X0 + u /\ rY0 false v X0 Y0 X1 Y1 = Y0 + v /\ rX1 false u X0 Y0 X1 Y1 = X1 + u /\ rY1 false v X0 Y0 X1 Y1 = Y1 + v := by
 unfold rX0 rY0 rX1 rY1 mx my
 simp only [cond_false]
 omega
theorem Hit.mv (hX : X0 <= X1) (hY : Y0 <= Y1) : Hit (mx t ax ay + 2 * u) (my t ax ay + 2 * v) (mx t bx b2 + 2 * u) (my t bx b2 + 2 * v) (2 * rX0 t u X0 Y0 X1 Y1) (2 * rY0 t v X0 Y0 X1 Y1) (2 * rX1 t u X0 Y0 X1 Y1) (2 * rY1 t v X0 Y0 X1 Y1) r ↔ Hit ax ay bx b2 (2 * X0) (2 * Y0) (2 * X1) (2 * Y1) r := by
 cases t with
 | true =>
   obtain ⟨e1, e2, e3, e4⟩ := xA (u := u) (v := v) hX hY
   rw [e1, e2, e3, e4]
   constructor
   ·rintro ⟨px, py, k, hk, h1, h2, h3⟩
    refine ⟨py - k * (2 * v), k * (2 * u) - px, k, hk, ?_, ?_, (Nq.mv (t := true) (u := 2 * u) (v := 2 * v)).1 ?_⟩
    ·constructor <;> grind
    ·constructor <;> grind
    ·show Nq _ _ _ _ (-(k * (2 * u) - px) + k * (2 * u)) (py - k * (2 * v) + k * (2 * v)) k r
     rw [show -(k * (2 * u) - px) + k * (2 * u) = px by omega, show py - k * (2 * v) + k * (2 * v) = py by omega]
     exact h3
   ·rintro ⟨px, py, k, hk, h1, h2, h3⟩
    refine ⟨-py + k * (2 * u), px + k * (2 * v), k, hk, ?_, ?_, (Nq.mv (t := true) (u := 2 * u) (v := 2 * v)).2 h3⟩
    ·constructor <;> grind
    ·constructor <;> grind
 | false =>
   obtain ⟨e1, e2, e3, e4⟩ := xp (u := u) (v := v) hX hY
   rw [e1, e2, e3, e4]
   constructor
   ·rintro ⟨px, py, k, hk, h1, h2, h3⟩
    refine ⟨px - k * (2 * u), py - k * (2 * v), k, hk, ?_, ?_, (Nq.mv (t := false) (u := 2 * u) (v := 2 * v)).1 ?_⟩
    ·constructor <;> grind
    ·constructor <;> grind
    ·show Nq _ _ _ _ (px - k * (2 * u) + k * (2 * u)) (py - k * (2 * v) + k * (2 * v)) k r
     rw [show px - k * (2 * u) + k * (2 * u) = px by omega, show py - k * (2 * v) + k * (2 * v) = py by omega]
     exact h3
   ·rintro ⟨px, py, k, hk, h1, h2, h3⟩
    refine ⟨px + k * (2 * u), py + k * (2 * v), k, hk, ?_, ?_, (Nq.mv (t := false) (u := 2 * u) (v := 2 * v)).2 h3⟩
    ·constructor <;> grind
    ·constructor <;> grind
end
section
variable {t : Bool} {u v n0 n1 Mx My vx vy k r X0 Y0 X1 Y1 : Int}
theorem Sh.mv : Sh n0 n1 (mx t Mx My) (my t Mx My) r (mx t vx vy) (my t vx vy) k ↔ Sh n0 n1 Mx My r vx vy k := by
 unfold Sh
 refine exists_congr fun N => exists_congr fun W => ?_
 have e : q2 (W * k * mx t Mx My - N * mx t vx vy) (W * k * my t Mx My - N * my t vx vy) = q2 (W * k * Mx - N * vx) (W * k * My - N * vy) := by
  refine Eq.trans ?_ (E8 t _ _)
  congr 1
  ·cases t <;> simp only [mx, cond_true, cond_false] <;> grind
  ·cases t <;> simp only [my, cond_true, cond_false] <;> grind
 rw [e]
theorem Tou.mt : Tou n0 n1 (-My) Mx r (-Y1) X0 (-Y0) X1 ↔ Tou n0 n1 Mx My r X0 Y0 X1 Y1 := by
 constructor
 ·rintro ⟨vx, vy, k, hk, h1, h2, h3⟩
  refine ⟨vy, -vx, k, hk, h2, ?_, (Sh.mv (t := true)).1 ?_⟩
  ·have e1 : k * -Y1 = -(k * Y1) := Int.mul_neg ..
   have e2 : k * -Y0 = -(k * Y0) := Int.mul_neg ..
   omega
  ·show Sh n0 n1 (-My) Mx r (- -vx) vy k
   rw [Int.neg_neg]; exact h3
 ·rintro ⟨vx, vy, k, hk, h1, h2, h3⟩
  refine ⟨-vy, vx, k, hk, ?_, h1, (Sh.mv (t := true)).2 h3⟩
  have e1 : k * -Y1 = -(k * Y1) := Int.mul_neg ..
  have e2 : k * -Y0 = -(k * Y0) := Int.mul_neg ..
  omega
end
theorem He {t : Bool} {u v X Y h tx ty R lo hi px py : Int} : shP (mx t X Y + u) (my t X Y + v) h (mx t tx ty + u) (my t tx ty + v) R lo hi (mx t px py + u) (my t px py + v) ↔ shP X Y h tx ty R lo hi px py := by
 unfold shP
 rw [show h * (mx t tx ty + u) - h * (mx t X Y + u) = mx t (h * tx - h * X) (h * ty - h * Y) by cases t <;> simp only [mx, cond_true, cond_false] <;> grind,
  show h * (my t tx ty + v) - h * (my t X Y + v) = my t (h * tx - h * X) (h * ty - h * Y) by cases t <;> simp only [my, cond_true, cond_false] <;> grind,
  show mx t px py + u - (mx t X Y + u) = mx t (px - X) (py - Y) by cases t <;> simp only [mx, cond_true, cond_false] <;> omega,
  show my t px py + v - (my t X Y + v) = my t (px - X) (py - Y) by cases t <;> simp only [my, cond_true, cond_false] <;> omega, Sh.mv]
theorem Hu {t : Bool} {u v X Y h tx ty R lo hi a b c d : Int} (hX : a <= c) (hY : b <= d) : toP (mx t X Y + u) (my t X Y + v) h (mx t tx ty + u) (my t tx ty + v) R lo hi (rX0 t u a b c d) (rY0 t v a b c d) (rX1 t u a b c d) (rY1 t v a b c d) ↔ toP X Y h tx ty R lo hi a b c d := by
 unfold toP
 cases t with
 | true =>
   obtain ⟨e1, e2, e3, e4⟩ := xA (u := u) (v := v) hX hY
   rw [e1, e2, e3, e4]
   simp only [mx, my, cond_true]
   rw [show h * (-ty + u) - h * (-Y + u) = -(h * ty - h * Y) by grind, show h * (tx + v) - h * (X + v) = h * tx - h * X by grind, show -d + u - (-Y + u) = -(d - Y) by omega, show a + v - (X + v) = a - X by omega, show -b + u - (-Y + u) = -(b - Y) by omega, show c + v - (X + v) = c - X by omega, Tou.mt]
 | false =>
   obtain ⟨e1, e2, e3, e4⟩ := xp (u := u) (v := v) hX hY
   rw [e1, e2, e3, e4]
   simp only [mx, my, cond_false]
   rw [show h * (tx + u) - h * (X + u) = h * tx - h * X by grind, show h * (ty + v) - h * (Y + v) = h * ty - h * Y by grind, show a + u - (X + u) = a - X by omega, show b + v - (Y + v) = b - Y by omega, show c + u - (X + u) = c - X by omega, show d + v - (Y + v) = d - Y by omega]
theorem Ej {t : Bool} {u v ax ay bx b2 px py : Int} : (mx t bx b2 + u - (mx t ax ay + u)) * (my t px py + v - (my t ax ay + v)) - (my t bx b2 + v - (my t ax ay + v)) * (mx t px py + u - (mx t ax ay + u)) = (bx - ax) * (py - ay) - (b2 - ay) * (px - ax) := by
 cases t <;> simp only [mx, my, cond_true, cond_false] <;> grind
end
noncomputable section
structure MvR (t : Bool) (u v : Int) (p q : List V) : Prop where
 n : bR (hdV (tlV (tlV q))) = bR (hdV (tlV (tlV p)))
 w : jv3 q = jv3 p
 x : ∀ j, j < bR (hdV (tlV (tlV p))) -> jv0 (atV (hdV (tlV (tlV q))) j) = mx t (jv0 (atV (hdV (tlV (tlV p))) j)) (jv1 (atV (hdV (tlV (tlV p))) j)) + u
 y : ∀ j, j < bR (hdV (tlV (tlV p))) -> jv1 (atV (hdV (tlV (tlV q))) j) = my t (jv0 (atV (hdV (tlV (tlV p))) j)) (jv1 (atV (hdV (tlV (tlV p))) j)) + v
structure MvT (t : Bool) (u v : Int) (p q : List V) : Prop where
 x : jv0 q = mx t (jv0 p) (jv1 p) + u
 y : jv1 q = my t (jv0 p) (jv1 p) + v
 r : jv2 q = jv2 p
 lo : jv3 q = jv3 p
 hi : jv4 q = jv4 p
structure MvF (t : Bool) (u v : Int) (p q : List V) : Prop where
 x : jv0 q = mx t (jv0 p) (jv1 p) + u
 y : jv1 q = my t (jv0 p) (jv1 p) + v
 x2 : jv2 q = mx t (jv2 p) (jv3 p) + u
 y2 : jv3 q = my t (jv2 p) (jv3 p) + v
structure MvC (t : Bool) (u v : Int) (p q : List V) : Prop where
 x : jv1 q = mx t (jv1 p) (jv2 p) + u
 y : jv2 q = my t (jv1 p) (jv2 p) + v
 h : jv3 q = jv3 p
abbrev fP (p : List V) : Nat -> List V := fun j => aq tp2 (atV (hdV (tlV (tlV p))) j)
abbrev nP (p : List V) : Nat := bR (hdV (tlV (tlV p)))
abbrev wP (p : List V) : Int := jv3 p
theorem mx2 (t : Bool) (a b u : Int) : 2 * (mx t a b + u) = mx t (2 * a) (2 * b) + 2 * u := by cases t <;> simp only [mx, cond_true, cond_false] <;> omega
theorem my2 (t : Bool) (a b u : Int) : 2 * (my t a b + u) = my t (2 * a) (2 * b) + 2 * u := by cases t <;> simp only [my, cond_true, cond_false] <;> omega
section
variable {t : Bool} {u v x y X0 Y0 X1 Y1 : Int} {p q : List V}
theorem MvR.px (h : MvR t u v p q) {j : Nat} (hj : j < nP p) : pxD (fP q) j = mx t (pxD (fP p) j) (pyD (fP p) j) + 2 * u := by
 show 2 * jv0 (atV (hdV (tlV (tlV q))) j) = mx t (2 * jv0 (atV (hdV (tlV (tlV p))) j)) (2 * jv1 (atV (hdV (tlV (tlV p))) j)) + 2 * u
 rw [h.x j hj, mx2]
theorem MvR.py (h : MvR t u v p q) {j : Nat} (hj : j < nP p) : pyD (fP q) j = my t (pxD (fP p) j) (pyD (fP p) j) + 2 * v := by
 show 2 * jv1 (atV (hdV (tlV (tlV q))) j) = my t (2 * jv0 (atV (hdV (tlV (tlV p))) j)) (2 * jv1 (atV (hdV (tlV (tlV p))) j)) + 2 * v
 rw [h.y j hj, my2]
theorem wt (h : MvR t u v p q) {i : Nat} (hi : i < nP p - 1) {w : Int} : OnP (fP q) w (mx t x y + u) (my t x y + v) 1 i ↔ OnP (fP p) w x y 1 i := by
 unfold OnP
 rw [h.px (by omega), h.py (by omega), h.px (show i + 1 < nP p by omega), h.py (show i + 1 < nP p by omega), mx2, my2]
 have := Nq.mv (t := t) (u := 2 * u) (v := 2 * v) (ax := pxD (fP p) i) (ay := pyD (fP p) i) (bx := pxD (fP p) (i + 1)) (b2 := pyD (fP p) (i + 1)) (px := 2 * x) (py := 2 * y) (k := 1) (r := w)
 rw [Int.one_mul, Int.one_mul] at this
 exact this
theorem IT (h : MvR t u v p q) (hr : ej (nP p) (fP p) (wP p)) (hs : ej (nP q) (fP q) (wP q)) (g1 : pl x) (g2 : pl y) (g3 : pl (mx t x y + u)) (g4 : pl (my t x y + v)) :
 F74 (nP q) (fP q) (wP q) (mx t x y + u) (my t x y + v) = F74 (nP p) (fP p) (wP p) x y := by
 have en : nP q = nP p := h.n
 have ew : wP q = wP p := h.w
 rw [Bool.eq_iff_iff, Fj hs g3 g4, Fj hr g1 g2, en, ew]
 constructor
 ·rintro ⟨i, hi, ho⟩; exact ⟨i, hi, (wt h hi).1 ho⟩
 ·rintro ⟨i, hi, ho⟩; exact ⟨i, hi, (wt h hi).2 ho⟩
theorem GH (h : MvR t u v p q) {i : Nat} (hi : i < nP p - 1) (hX : X0 <= X1) (hY : Y0 <= Y1) {w : Int} :
 Hit (pxD (fP q) i) (pyD (fP q) i) (pxD (fP q) (i + 1)) (pyD (fP q) (i + 1)) (2 * rX0 t u X0 Y0 X1 Y1) (2 * rY0 t v X0 Y0 X1 Y1) (2 * rX1 t u X0 Y0 X1 Y1) (2 * rY1 t v X0 Y0 X1 Y1) w ↔ Hit (pxD (fP p) i) (pyD (fP p) i) (pxD (fP p) (i + 1)) (pyD (fP p) (i + 1)) (2 * X0) (2 * Y0) (2 * X1) (2 * Y1) w := by
 rw [h.px (by omega), h.py (by omega), h.px (show i + 1 < nP p by omega), h.py (show i + 1 < nP p by omega)]
 exact Hit.mv hX hY
theorem DS (hX : X0 <= X1) (hY : Y0 <= Y1) : rX0 t u X0 Y0 X1 Y1 <= rX1 t u X0 Y0 X1 Y1 /\ rY0 t v X0 Y0 X1 Y1 <= rY1 t v X0 Y0 X1 Y1 := by
 unfold rX0 rX1 rY0 rY1; omega
theorem BO (hX : X0 <= X1) (hY : Y0 <= Y1) {P Q : Int -> Int -> Prop} (hPQ : ∀ x y, P (mx t x y + u) (my t x y + v) ↔ Q x y) :
 (P (rX0 t u X0 Y0 X1 Y1) (rY0 t v X0 Y0 X1 Y1) /\ P (rX1 t u X0 Y0 X1 Y1) (rY0 t v X0 Y0 X1 Y1) /\ P (rX1 t u X0 Y0 X1 Y1) (rY1 t v X0 Y0 X1 Y1) /\ P (rX0 t u X0 Y0 X1 Y1) (rY1 t v X0 Y0 X1 Y1)) ↔ (Q X0 Y0 /\ Q X1 Y0 /\ Q X1 Y1 /\ Q X0 Y1) := by
 cases t with
 | true =>
   obtain ⟨e1, e2, e3, e4⟩ := xA (u := u) (v := v) hX hY
   rw [e1, e2, e3, e4]
   have k1 : P (-Y1 + u) (X0 + v) ↔ Q X0 Y1 := hPQ X0 Y1
   have k2 : P (-Y0 + u) (X0 + v) ↔ Q X0 Y0 := hPQ X0 Y0
   have k3 : P (-Y0 + u) (X1 + v) ↔ Q X1 Y0 := hPQ X1 Y0
   have k4 : P (-Y1 + u) (X1 + v) ↔ Q X1 Y1 := hPQ X1 Y1
   rw [k1, k2, k3, k4]
   exact ⟨fun ⟨a, b, c, d⟩ => ⟨b, c, d, a⟩, fun ⟨a, b, c, d⟩ => ⟨d, a, b, c⟩⟩
 | false =>
   obtain ⟨e1, e2, e3, e4⟩ := xp (u := u) (v := v) hX hY
   rw [e1, e2, e3, e4]
   have k1 : P (X0 + u) (Y0 + v) ↔ Q X0 Y0 := hPQ X0 Y0
   have k2 : P (X1 + u) (Y0 + v) ↔ Q X1 Y0 := hPQ X1 Y0
   have k3 : P (X1 + u) (Y1 + v) ↔ Q X1 Y1 := hPQ X1 Y1
   have k4 : P (X0 + u) (Y1 + v) ↔ Q X0 Y1 := hPQ X0 Y1
   rw [k1, k2, k3, k4]
theorem FF {a b : Int} (h0 : 0 <= a /\ a <= 2) (h1 : 0 <= b /\ b <= 2) (k2 : a = 2 ↔ b = 2) (k0 : a ≠ 0 ↔ b ≠ 0) : a = b := by
 by_cases e2 : a = 2
 ·have := k2.1 e2; omega
 ·by_cases e0 : a = 0
  ·have : b = 0 := by apply Classical.byContradiction; intro hb; exact k0.2 hb e0
   omega
  ·have := k0.1 e0
   have : b ≠ 2 := fun hb => e2 (k2.2 hb)
   omega
theorem KY (h : MvR t u v p q) (hr : ej (nP p) (fP p) (wP p)) (hs : ej (nP q) (fP q) (wP q)) (g1 : pl X0) (g2 : pl Y0) (g3 : pl X1) (g4 : pl Y1) (hX : X0 <= X1) (hY : Y0 <= Y1)
 (k1 : pl (rX0 t u X0 Y0 X1 Y1)) (k2 : pl (rY0 t v X0 Y0 X1 Y1)) (k3 : pl (rX1 t u X0 Y0 X1 Y1)) (k4 : pl (rY1 t v X0 Y0 X1 Y1)) :
 F61 (nP q) (fP q) (wP q) (rX0 t u X0 Y0 X1 Y1) (rY0 t v X0 Y0 X1 Y1) (rX1 t u X0 Y0 X1 Y1) (rY1 t v X0 Y0 X1 Y1) = F61 (nP p) (fP p) (wP p) X0 Y0 X1 Y1 := by
 have en : nP q = nP p := h.n
 have ew : wP q = wP p := h.w
 obtain ⟨l1, l2⟩ := DS (t := t) (u := u) (v := v) hX hY
 have A := FC hs k1 k2 k3 k4 l1 l2
 have B := FC hr g1 g2 g3 g4 hX hY
 have A0 := Fc hs k1 k2 k3 k4 l1 l2
 have B0 := Fc hr g1 g2 g3 g4 hX hY
 rw [en, ew] at A A0 ⊢
 refine FF A.2 B.2 (A.1.trans (Iff.trans ?_ B.1.symm)) (A0.trans (Iff.trans ?_ B0.symm))
 ·refine exists_congr fun i => and_congr_right fun hi => ?_
  exact BO (P := fun x y => OnP (fP q) (wP p) x y 1 i) (Q := fun x y => OnP (fP p) (wP p) x y 1 i) hX hY fun x y => wt h hi
 ·exact exists_congr fun i => and_congr_right fun hi => GH h hi hX hY
end
theorem yS {e : Int} {p : Bool} (h : (bif e != 0 then e else bif !p then 7 else 0) = (0 : Int)) : e = 0 /\ p = true := by
 by_cases he : e = 0
 ·subst he
  cases p with
  | true => exact ⟨rfl, rfl⟩
  | false => cases h
 ·rw [show (e != 0) = true from by simpa using he] at h
  exact absurd h he
section
variable {n0 : Nat} {f0 g0 : Nat -> List V} {n2 : Nat} {f2 g2 : Nat -> List V} {n4 : Nat} {f4 g4 : Nat -> List V} {n6 : Nat} {f6 g6 : Nat -> List V} {x8 : Int} {t : Bool} {u v x y a b c d : Int}
theorem kn (h1 : bW n0 (elV tyR f0) n2 (elV tyT f2) n4 (elV tyF f4) n6 (elV tyC f6) = 0) (h2 : bW n0 (elV tyR g0) n2 (elV tyT g2) n4 (elV tyF g4) n6 (elV tyC g6) = 0) (m : Nat) : dE n0 f0 n2 f2 n4 f4 n6 f6 x8 m = dE n0 g0 n2 g2 n4 g4 n6 g6 x8 m := by
 unfold dE; rw [h1, h2]
theorem oT {m : Nat} (h : dE n0 f0 n2 f2 n4 f4 n6 f6 x8 m = 0) : x8.toNat < m := by
 obtain ⟨_, z1, z2⟩ := qe h; omega
theorem jD {x : Int} (h : -100000 <= x /\ x <= 100000) : pl x := by unfold pl; omega
theorem Jl (hR : ∀ i, i < n0 -> MvR t u v (f0 i) (g0 i)) (h1 : bW n0 (elV tyR f0) n2 (elV tyT f2) n4 (elV tyF f4) n6 (elV tyC f6) = 0) (h2 : bW n0 (elV tyR g0) n2 (elV tyT g2) n4 (elV tyF g4) n6 (elV tyC g6) = 0) (hp : fG x y = true)
 (hf : iC n0 g0 n2 g2 n4 g4 n6 g6 x8 (mx t x y + u) (my t x y + v) = 0) :
 iC n0 f0 n2 f2 n4 f4 n6 f6 x8 x y = 0 /\ jR n0 f0 n2 f2 n4 f4 n6 f6 x8 x y = jR n0 g0 n2 g2 n4 g4 n6 g6 x8 (mx t x y + u) (my t x y + v) := by
 rw [EF.1] at hf
 obtain ⟨e2, hq⟩ := yS hf
 have e1 := (kn (x8 := x8) h1 h2 n0).trans e2
 refine ⟨by rw [Mh hp]; exact e1, ?_⟩
 obtain ⟨a1, r1⟩ := EF.2 e1 hp
 obtain ⟨a2, r2⟩ := EF.2 e2 hq
 rw [a1, a2]
 have hp' := ph hp
 have hq' := ph hq
 exact (IT (hR _ (oT e1)) r1 r2 (jD hp'.1) (jD hp'.2) (jD hq'.1) (jD hq'.2)).symm
theorem Cf (hR : ∀ i, i < n0 -> MvR t u v (f0 i) (g0 i)) (h1 : bW n0 (elV tyR f0) n2 (elV tyT f2) n4 (elV tyF f4) n6 (elV tyC f6) = 0) (h2 : bW n0 (elV tyR g0) n2 (elV tyT g2) n4 (elV tyF g4) n6 (elV tyC g6) = 0) (hp : fh a b c d = true)
 (hf : iL n0 g0 n2 g2 n4 g4 n6 g6 x8 (rX0 t u a b c d) (rY0 t v a b c d) (rX1 t u a b c d) (rY1 t v a b c d) = 0) :
 iL n0 f0 n2 f2 n4 f4 n6 f6 x8 a b c d = 0 /\ jF n0 f0 n2 f2 n4 f4 n6 f6 x8 a b c d = jF n0 g0 n2 g2 n4 g4 n6 g6 x8 (rX0 t u a b c d) (rY0 t v a b c d) (rX1 t u a b c d) (rY1 t v a b c d) := by
 rw [oM.1] at hf
 obtain ⟨e2, hq⟩ := yS hf
 have e1 := (kn (x8 := x8) h1 h2 n0).trans e2
 refine ⟨by rw [EC hp]; exact e1, ?_⟩
 obtain ⟨a1, r1⟩ := oM.2.1 e1 hp
 obtain ⟨a2, r2⟩ := oM.2.1 e2 hq
 rw [a1, a2]
 obtain ⟨p1, p2, p3, p4, p5, p6⟩ := gC hp
 obtain ⟨q1, q2, q3, q4, _, _⟩ := gC hq
 exact (KY (hR _ (oT e1)) r1 r2 (jD p1) (jD p2) (jD p3) (jD p4) p5 p6 (jD q1) (jD q2) (jD q3) (jD q4)).symm
theorem BS {i : Nat} (hT : MvT t u v (f2 i) (g2 i)) (hC : MvC t u v (f6 x8.toNat) (g6 x8.toNat)) : shA g2 g6 x8 i (mx t x y + u) (my t x y + v) ↔ shA f2 f6 x8 i x y := by
 unfold shA
 rw [hT.x, hT.y, hT.r, hT.lo, hT.hi, hC.x, hC.y, hC.h]
 exact He
theorem GM {i : Nat} (hT : MvT t u v (f2 i) (g2 i)) (hC : MvC t u v (f6 x8.toNat) (g6 x8.toNat)) (hX : a <= c) (hY : b <= d) : CC g2 g6 x8 i (rX0 t u a b c d) (rY0 t v a b c d) (rX1 t u a b c d) (rY1 t v a b c d) ↔ CC f2 f6 x8 i a b c d := by
 unfold CC
 rw [hT.x, hT.y, hT.r, hT.lo, hT.hi, hC.x, hC.y, hC.h]
 exact Hu hX hY
theorem Ct {n : Nat} {p q : Nat -> Bool} (h : ∀ i, i < n -> (p i = true ↔ q i = true)) : idx n p = idx n q := by
 have hb : ∀ i, i < n -> p i = q i := fun i hi => by rw [Bool.eq_iff_iff]; exact h i hi
 rcases pC (n := n) (p := p) with ⟨k1, k2⟩ | ⟨j, k1, k2, k3, k4⟩
 ·rcases pC (n := n) (p := q) with ⟨l1, l2⟩ | ⟨i, l1, l2, l3, l4⟩
  ·rw [k1, l1]
  ·have := k2 i l1; rw [hb i l1, l3] at this; cases this
 ·rcases pC (n := n) (p := q) with ⟨l1, l2⟩ | ⟨i, l1, l2, l3, l4⟩
  ·have := l2 j k1; rw [← hb j k1, k3] at this; cases this
  ·rw [k2, l2]
   have : ¬ j < i := fun hlt => by have := l4 j hlt; rw [← hb j k1, k3] at this; cases this
   have : ¬ i < j := fun hlt => by have := k4 i hlt; rw [hb i l1, l3] at this; cases this
   omega
theorem AM (hT : ∀ i, i < n2 -> MvT t u v (f2 i) (g2 i)) (hC : ∀ i, i < n6 -> MvC t u v (f6 i) (g6 i)) (h1 : bW n0 (elV tyR f0) n2 (elV tyT f2) n4 (elV tyF f4) n6 (elV tyC f6) = 0) (h2 : bW n0 (elV tyR g0) n2 (elV tyT g2) n4 (elV tyF g4) n6 (elV tyC g6) = 0) (hp : fG x y = true)
 (hf : iu n0 g0 n2 g2 n4 g4 n6 g6 x8 (mx t x y + u) (my t x y + v) = 0) :
 iu n0 f0 n2 f2 n4 f4 n6 f6 x8 x y = 0 /\ jZ n0 f0 n2 f2 n4 f4 n6 f6 x8 x y = jZ n0 g0 n2 g2 n4 g4 n6 g6 x8 (mx t x y + u) (my t x y + v) := by
 rw [lX.1] at hf
 obtain ⟨e2, hq⟩ := yS hf
 have e1 := (kn (x8 := x8) h1 h2 n6).trans e2
 refine ⟨by rw [Cn hp]; exact e1, ?_⟩
 obtain ⟨p1, a1, r1⟩ := lX.2 e1 hp
 obtain ⟨p2, a2, r2⟩ := lX.2 e2 hq
 rw [a1, a2]
 exact Ct fun i hi => (r1 i hi).trans ((BS (hT i hi) (hC _ (oT e1))).symm.trans (r2 i hi).symm)
theorem C9 (hT : ∀ i, i < n2 -> MvT t u v (f2 i) (g2 i)) (hC : ∀ i, i < n6 -> MvC t u v (f6 i) (g6 i)) (h1 : bW n0 (elV tyR f0) n2 (elV tyT f2) n4 (elV tyF f4) n6 (elV tyC f6) = 0) (h2 : bW n0 (elV tyR g0) n2 (elV tyT g2) n4 (elV tyF g4) n6 (elV tyC g6) = 0) (hp : fh a b c d = true)
 (hf : fx n0 g0 n2 g2 n4 g4 n6 g6 x8 (rX0 t u a b c d) (rY0 t v a b c d) (rX1 t u a b c d) (rY1 t v a b c d) = 0) :
 fx n0 f0 n2 f2 n4 f4 n6 f6 x8 a b c d = 0 /\ eF n0 f0 n2 f2 n4 f4 n6 f6 x8 a b c d = eF n0 g0 n2 g2 n4 g4 n6 g6 x8 (rX0 t u a b c d) (rY0 t v a b c d) (rX1 t u a b c d) (rY1 t v a b c d) := by
 rw [td.1] at hf
 obtain ⟨e2, hq⟩ := yS hf
 have e1 := (kn (x8 := x8) h1 h2 n6).trans e2
 refine ⟨by rw [DE hp]; exact e1, ?_⟩
 have w1 := zE e1 hp
 have w2 := zE e2 hq
 obtain ⟨_, _, _, _, p5, p6⟩ := gC hp
 have hc := hC _ (oT e1)
 refine FF w1.2.2 w2.2.2 (w1.2.1.trans (Iff.trans ?_ w2.2.1.symm)) ?_
 ·refine exists_congr fun i => and_congr_right fun hi => ?_
  exact (BO (P := fun x y => shA g2 g6 x8 i x y) (Q := fun x y => shA f2 f6 x8 i x y) p5 p6 fun x y => BS (hT i hi) hc).symm
 ·refine not_congr (w1.1.trans (Iff.trans ?_ w2.1.symm))
  exact forall_congr' fun i => forall_congr' fun hi => not_congr (GM (hT i hi) hc p5 p6).symm
theorem oC {x9 : Int} : kY n0 f0 n2 f2 n4 f4 n6 f6 x8 x9 = ix2 (bW n0 (elV tyR f0) n2 (elV tyT f2) n4 (elV tyF f4) n6 (elV tyC f6)) x9 n4 x8 n6 /\
 kH n0 f0 n2 f2 n4 f4 n6 f6 x8 x9 = bif ix2 (bW n0 (elV tyR f0) n2 (elV tyT f2) n4 (elV tyF f4) n6 (elV tyC f6)) x9 n4 x8 n6 != 0 then false else decide (0 < bo (jv0 (f4 x9.toNat)) (jv1 (f4 x9.toNat)) (jv2 (f4 x9.toNat)) (jv3 (f4 x9.toNat)) (jv1 (f6 x8.toNat)) (jv2 (f6 x8.toNat))) := by
 have hc := MW (n0 := n0) (f0 := f0) (n2 := n2) (f2 := f2) (n4 := n4) (f4 := f4) (n6 := n6) (f6 := f6) (i := x9) (j := x8) (m := n4) (l := n6) (fun h => ⟨by have := (dK h).l4; omega, by have := (dK h).l6; omega⟩)
 unfold kH kY
 rw [show F44 n0 (elV tyR f0) n2 (elV tyT f2) n4 (elV tyF f4) n6 (elV tyC f6) 4 (elV tp1 (bn [vi x9, vi n4, vi x8, vi n6] 0 1)) = _ from hc]
 refine ⟨?_, rfl⟩
 generalize ix2 _ _ _ _ _ = e
 by_cases he : e = 0
 ·subst he; rfl
 ·rw [show (e != 0) = true from by simpa using he]; rfl
theorem Cy {e i m j l : Int} (h : ix2 e i m j l = 0) : e = 0 /\ (0 <= i /\ i < m) /\ 0 <= j /\ j < l := by
 unfold ix2 wK at h
 by_cases he : e = 0
 ·subst he
  refine ⟨rfl, ?_⟩
  have h' : (bif bif bif decide (i < 0) then true else decide (m <= i) then true else bif decide (j < 0) then true else decide (l <= j) then (4 : Int) else 0) = 0 := h
  by_cases h1 : i < 0
  ·rw [dqt h1] at h'; cases h'
  ·rw [dqf h1, cond_false] at h'
   by_cases h2 : m <= i
   ·rw [dqt h2] at h'; cases h'
   ·rw [dqf h2, cond_false] at h'
    by_cases h3 : j < 0
    ·rw [dqt h3] at h'; cases h'
    ·rw [dqf h3, cond_false] at h'
     by_cases h4 : l <= j
     ·rw [dqt h4] at h'; cases h'
     ·omega
 ·rw [show (e == 0) = false from by simpa using he] at h
  exact absurd h he
theorem Gs {p1 p2 p3 p4 p5 p6 : Int} (h1 : -100000 <= p1 /\ p1 <= 100000) (h2 : -100000 <= p2 /\ p2 <= 100000) (h3 : -100000 <= p3 /\ p3 <= 100000) (h4 : -100000 <= p4 /\ p4 <= 100000) (h5 : -100000 <= p5 /\ p5 <= 100000) (h6 : -100000 <= p6 /\ p6 <= 100000) :
 bo p1 p2 p3 p4 p5 p6 = (p3 - p1) * (p6 - p2) - (p4 - p2) * (p5 - p1) := by
 show i64.wrap (i64.wrap (i64.wrap (p3 - p1) * i64.wrap (p6 - p2)) - i64.wrap (i64.wrap (p4 - p2) * i64.wrap (p5 - p1))) = _
 rw [av (x := p3 - p1) (by omega) (by omega), av (x := p6 - p2) (by omega) (by omega), av (x := p4 - p2) (by omega) (by omega), av (x := p5 - p1) (by omega) (by omega)]
 have m : ∀ {a b : Int}, -200000 <= a -> a <= 200000 -> -200000 <= b -> b <= 200000 -> -40000000000 <= a * b /\ a * b <= 40000000000 := fun {a b} a1 a2 b1 b2 => by
  have k1 := imn (show 0 <= 200000 - a by omega) (show 0 <= 200000 - b by omega)
  have k2 := imn (show 0 <= 200000 + a by omega) (show 0 <= 200000 - b by omega)
  have k3 := imn (show 0 <= 200000 - a by omega) (show 0 <= 200000 + b by omega)
  have k4 := imn (show 0 <= 200000 + a by omega) (show 0 <= 200000 + b by omega)
  have e1 : (200000 - a) * (200000 - b) = 40000000000 - 200000 * a - 200000 * b + a * b := by grind
  have e2 : (200000 + a) * (200000 - b) = 40000000000 + 200000 * a - 200000 * b - a * b := by grind
  have e3 : (200000 - a) * (200000 + b) = 40000000000 - 200000 * a + 200000 * b - a * b := by grind
  have e4 : (200000 + a) * (200000 + b) = 40000000000 + 200000 * a + 200000 * b + a * b := by grind
  omega
 have m1 := m (a := p3 - p1) (b := p6 - p2) (by omega) (by omega) (by omega) (by omega)
 have m2 := m (a := p4 - p2) (b := p5 - p1) (by omega) (by omega) (by omega) (by omega)
 rw [av (x := (p3 - p1) * (p6 - p2)) (by omega) (by omega), av (x := (p4 - p2) * (p5 - p1)) (by omega) (by omega), av (by omega) (by omega)]
theorem E9 {i j : Nat} (h : cF (elV tyF f4) i = 0) (hc : cC n6 (elV tyC f6) j = 0) : bo (jv0 (f4 i)) (jv1 (f4 i)) (jv2 (f4 i)) (jv3 (f4 i)) (jv1 (f6 j)) (jv2 (f6 j)) =
 (jv2 (f4 i) - jv0 (f4 i)) * (jv2 (f6 j) - jv1 (f4 i)) - (jv3 (f4 i) - jv1 (f4 i)) * (jv1 (f6 j) - jv0 (f4 i)) := by
 have c := wI (xe (f6 := elV tyC f6) hc)
 have a := (vO h).1
 have b1 : -100000 <= jv0 (f4 i) /\ jv0 (f4 i) <= 100000 := a (jv0 (elV tyF f4 i)) (by simp)
 have b2 : -100000 <= jv1 (f4 i) /\ jv1 (f4 i) <= 100000 := a (jv1 (elV tyF f4 i)) (by simp)
 have b3 : -100000 <= jv2 (f4 i) /\ jv2 (f4 i) <= 100000 := a (jv2 (elV tyF f4 i)) (by simp)
 have b4 : -100000 <= jv3 (f4 i) /\ jv3 (f4 i) <= 100000 := a (jv3 (elV tyF f4 i)) (by simp)
 have c1 : -100000 <= jv1 (f6 j) /\ jv1 (f6 j) <= 100000 := c.1
 have c2 : -100000 <= jv2 (f6 j) /\ jv2 (f6 j) <= 100000 := c.2.1
 exact Gs b1 b2 b3 b4 c1 c2
theorem BF {x9 : Int} (hF : ∀ i, i < n4 -> MvF t u v (f4 i) (g4 i)) (hC : ∀ i, i < n6 -> MvC t u v (f6 i) (g6 i)) (h1 : bW n0 (elV tyR f0) n2 (elV tyT f2) n4 (elV tyF f4) n6 (elV tyC f6) = 0) (h2 : bW n0 (elV tyR g0) n2 (elV tyT g2) n4 (elV tyF g4) n6 (elV tyC g6) = 0) :
 kY n0 f0 n2 f2 n4 f4 n6 f6 x8 x9 = kY n0 g0 n2 g2 n4 g4 n6 g6 x8 x9 /\ kH n0 f0 n2 f2 n4 f4 n6 f6 x8 x9 = kH n0 g0 n2 g2 n4 g4 n6 g6 x8 x9 := by
 refine ⟨by rw [oC.1, oC.1, h1, h2], ?_⟩
 rw [oC.2, oC.2, h1, h2]
 by_cases he : ix2 0 x9 n4 x8 n6 = 0
 ·rw [he]
  obtain ⟨_, ⟨i1, i2⟩, j1, j2⟩ := Cy he
  have hf := hF x9.toNat (by omega)
  have hc := hC x8.toNat (by omega)
  have e := E9 ((dK h2).fr x9.toNat (by omega)) ((dK h2).cl x8.toNat (by omega))
  rw [hf.x, hf.y, hf.x2, hf.y2, hc.x, hc.y, Ej, ← hf.x, ← hf.y, ← hf.x2, ← hf.y2, ← hc.x, ← hc.y] at e
  rw [← E9 ((dK h1).fr x9.toNat (by omega)) ((dK h1).cl x8.toNat (by omega))] at e
  rw [e]
 ·rw [show (ix2 0 x9 (n4 : Int) x8 (n6 : Int) != 0) = true from by simpa using he]; rfl
end
end
noncomputable section
theorem hb1 {m n o e f g : Int} (hf : f = e) (hg : g = e) (h0 : m = 0 ↔ n = 0 /\ o = 0) (h2 : m = 2 -> n = 2 /\ o = 2) : (bif bif bif e != f then true else e != g then true else !(m == 0) == bif n == 0 then o == 0 else false then true else bif m == 2 then bif n != m then true else o != m else false) = false := by
 subst hf; subst hg
 rw [bne_self_eq_false, cond_false, cond_false]
 have e1 : ((m == 0) == bif n == 0 then o == 0 else false) = true := by
  by_cases hm : m = 0
  ·obtain ⟨k1, k2⟩ := h0.1 hm
   rw [hm, k1, k2]; rfl
  ·have : ¬ (n = 0 /\ o = 0) := fun h => hm (h0.2 h)
   rw [show (m == 0) = false from by simpa using hm]
   by_cases hn : n = 0
   ·have ho : o ≠ 0 := fun h => this ⟨hn, h⟩
    rw [hn, show (o == 0) = false from by simpa using ho]; rfl
   ·rw [show (n == 0) = false from by simpa using hn]; rfl
 rw [e1, Bool.not_true, cond_false]
 by_cases hm : m = 2
 ·obtain ⟨k1, k2⟩ := h2 hm
  rw [hm, k1, k2]; rfl
 ·rw [show (m == 2) = false from by simpa using hm]; rfl
theorem hb2 {m n o e f g : Int} (hf : f = e) (hg : g = e) (h0 : m = 0 ↔ n = 0 /\ o = 0) (h2 : m = 2 -> n = 2 /\ o = 2) : (bif bif bif e == f then e == g else false then (m == 0) == bif n == 0 then o == 0 else false else false then bif m != 2 then true else bif n == m then o == m else false else false) = true := by
 subst hf; subst hg
 rw [BEq.rfl, cond_true, cond_true]
 have e1 : ((m == 0) == bif n == 0 then o == 0 else false) = true := by
  by_cases hm : m = 0
  ·obtain ⟨k1, k2⟩ := h0.1 hm
   rw [hm, k1, k2]; rfl
  ·have : ¬ (n = 0 /\ o = 0) := fun h => hm (h0.2 h)
   rw [show (m == 0) = false from by simpa using hm]
   by_cases hn : n = 0
   ·have ho : o ≠ 0 := fun h => this ⟨hn, h⟩
    rw [hn, show (o == 0) = false from by simpa using ho]; rfl
   ·rw [show (n == 0) = false from by simpa using hn]; rfl
 rw [e1, cond_true]
 by_cases hm : m = 2
 ·obtain ⟨k1, k2⟩ := h2 hm
  rw [hm, k1, k2]; rfl
 ·rw [show (m != 2) = true from by simpa using hm]; rfl
theorem Jc {a b c d : Int} (h : (bif bif bif bif bif decide (a < -100000) then true else decide (b < -100000) then true else decide (100000 < c) then true else decide (100000 < d) then true else decide (c < a) then true else decide (d < b)) = false) : fh a b c d = true := by
 have o6 : ∀ p q u v w x : Bool, (bif bif bif bif bif p then true else q then true else u then true else v then true else w then true else x) = false -> p = false /\ q = false /\ u = false /\ v = false /\ w = false /\ x = false := by decide
 obtain ⟨h1, h2, h3, h4, h5, h6⟩ := o6 _ _ _ _ _ _ h
 have h1 := of_decide_eq_false h1
 have h2 := of_decide_eq_false h2
 have h3 := of_decide_eq_false h3
 have h4 := of_decide_eq_false h4
 have h5 := of_decide_eq_false h5
 have h6 := of_decide_eq_false h6
 exact Cd (by omega) (by omega) (by omega) (by omega) (by omega) (by omega)
end
end Go.Dx
namespace Go.Dx
open Go.Sx Go.RowKit
def tyB : Ty -> Nat
 | .int .u8 => 1
 | .int .i8 => 1
 | .int .u16 => 2
 | .int .i16 => 2
 | .int .u32 => 4
 | .int .i32 => 4
 | .int _ => 8
 | .bool => 1
 | .str => 16
 | .sl _ => 24
 | _ => 0
def zP : List Ty -> Nat
 | [] => 0
 | t :: ts => tyB t + zP ts
mutual
def lB : Ty -> V -> Prop
 | .agg ts, v => dp ts (cz v)
 | .sl ts, v => bR v * zP ts <= 140737488351232 /\ ∀ i, i < bR v -> dp ts (atV v i)
 | _, _ => True
def dp : List Ty -> List V -> Prop
 | [], _ => True
 | t :: ts, vs => lB t (hdV vs) /\ dp ts (tlV vs)
end
mutual
theorem zY : ∀ (t : Ty) (v : V), lB t v -> lB t (view t v)
 | .int _, _, _ => trivial
 | .bool, _, _ => trivial
 | .str, _, _ => trivial
 | .agg ts, v, h => by simp only [view, lB, cz] at h ⊢; exact fe ts _ h
 | .sl ts, v, h => by simp only [view, lB, bR, atV] at h ⊢; exact ⟨h.1, fun i hi => fe ts _ (h.2 i hi)⟩
 | .fn .., _, _ => trivial
 | .pd _, _, _ => trivial
theorem fe : ∀ (ts : List Ty) (vs : List V), dp ts vs -> dp ts (aq ts vs)
 | [], _, _ => trivial
 | t :: ts, vs, h => by simp only [dp, aq, hdV, tlV] at h ⊢; exact ⟨zY t _ h.1, fe ts _ h.2⟩
end
theorem jr : ∀ {ts us : List Ty} {vs xs : List V}, aJ ts vs -> dp ts vs -> dp us xs -> dp (ts ++ us) (vs ++ xs)
 | [], _, _, _, h, _, k => by simp only [aJ] at h; subst h; simpa using k
 | t :: ts, us, vs, xs, h, hz, k => by
   simp only [aJ] at h
   rw [h.1]
   simp only [dp] at hz
   simp only [List.cons_append, dp, hdV, tlV]
   exact ⟨hz.1, jr h.2.2 hz.2 k⟩
def tg (P : Program) : Nat -> TypeId -> Bool
 | 0, _ => false
 | fu + 1, t => match P.underlying t with
   | some (.slice e) => match eY P fu e with
     | some ts => decide (zP ts <= P.bytesOf e) && tg P fu e
     | none => false
   | some (.struct fs) => fs.toList.all fun f => tg P fu f.type
   | some (.array _ e) => tg P fu e
   | _ => true
def small (l : List Nat) : Prop := ∀ x, x ∈ l -> x <= reachBytes
section
variable {P : Program} {H : Type} {enc : TypeId × Value -> H} {w : World} {base : Nat} {spare : Nat -> Bool} {held : Bool}
theorem pX {e : TypeId} : ∀ {l : List (DataW H)} {i : Nat} {d : DataW H}, small (DataW.weightsAll P e l) -> l[i]? = some d -> small (d.weights P e)
 | [], _, _, _, h => by simp at h
 | a :: l, 0, d, hs, h => by
   simp at h; subst h
   exact fun x hx => hs x (by simp only [DataW.weightsAll]; exact List.mem_append_left _ hx)
 | a :: l, i + 1, d, hs, h => pX (l := l) (i := i) (fun x hx => hs x (by simp only [DataW.weightsAll]; exact List.mem_append_right _ hx)) (by simpa using h)
theorem Ac {a : Addr} {n c esz : Nat} {ts : List Ty} (hn : n <= c) (hc : c <= maxLen) (hcell : ts.all aZ = true) (hw : n * zP ts <= 140737488351232)
 (h : ∀ i, i < n -> ∃ cs : List Value, dI w (a.add (i * esz)) 0 esz = some (cs.map aM) /\ ∃ vs, vrs w [] Nu.nil vs (cs.map aM) /\ (aJ ts vs /\ d5 ts vs /\ dp ts vs) /\ vs.all V.fc = true) :
 ∃ v, vr w [] Nu.nil v (.slice (some (.g a)) n c) /\ (bw (.sl ts) v /\ rl (.sl ts) v /\ lB (.sl ts) v) /\ v.fc = true := by
 classical
 refine ⟨.sl n fun i => if hi : i < n then (Classical.choose (Classical.choose_spec (h i hi)).2) else [], ?_, ?_, rfl⟩
 ·simp only [vr]
  refine ⟨some (.g a), c, esz, rfl, hn, by unfold maxLen at hc; omega, trivial, fun i hi => ?_⟩
  have h1 := Classical.choose_spec (h i hi)
  have h2 := Classical.choose_spec h1.2
  refine ⟨.g a, (Classical.choose (h i hi)).map aM, rfl, ?_, ?_, ?_⟩
  ·simp only [Ptr.add, lds]; exact h1.1
  ·simp only [hi, dite_true]; exact h2.1
  ·simp only [hi, dite_true]; exact h2.2.2
 ·simp only [bw, rl, lB, bR, atV, Az]
  refine ⟨⟨.inl rfl, hcell, fun i hi => ?_⟩, fun i hi => ?_, hw, fun i hi => ?_⟩
  ·simp only [hi, dite_true]
   exact (Classical.choose_spec (Classical.choose_spec (h i hi)).2).2.1.1
  ·simp only [hi, dite_true]
   exact (Classical.choose_spec (Classical.choose_spec (h i hi)).2).2.1.2.1
  ·simp only [hi, dite_true]
   exact (Classical.choose_spec (Classical.choose_spec (h i hi)).2).2.1.2.2
theorem lV {rec : TypeId -> Option (List Ty)} {ok : TypeId -> Bool} {fuel : Nat} (hr : ∀ t ts cs d ps, rec t = some ts -> ok t = true -> small (DataW.weights P t d) -> DataW.trod enc P w base spare held fuel t cs = some (d, ps) -> ∃ vs, vrs w [] Nu.nil vs (cs.map aM) /\ aJ ts vs /\ d5 ts vs /\ dp ts vs) (cs : List Value) :
 ∀ {fs : List Field} {off n : Nat} {ts : List Ty} {ds : List (DataW H)}, dY P rec fs off = some (ts, n) -> fs.all (fun f => ok f.type) = true -> small (DataW.weightsEach P (fs.map (·.type)) ds) ->
 (∀ (i : Nat) (f : Field), fs[i]? = some f -> ∃ d ps, ds[i]? = some d /\ DataW.trod enc P w base spare held fuel f.type ((cs.drop f.offset).take (P.cellsOf f.type)) = some (d, ps)) -> cs.length = n ->
 ∃ vs, vrs w [] Nu.nil vs ((cs.drop off).map aM) /\ aJ ts vs /\ d5 ts vs /\ dp ts vs
 | [], off, n, ts, ds, h, _, _, _, hl => by
   simp [dY] at h
   obtain ⟨rfl, rfl⟩ := h
   exact ⟨[], by rw [List.drop_eq_nil_of_le (by omega)]; simp [vrs], by simp [aJ], trivial, trivial⟩
 | f :: l, off, n, ts, ds, h, ho, hs, hx, hl => by
   simp only [dY] at h
   simp only [List.all_cons, Bool.and_eq_true] at ho
   split at h
   ·rename_i us vs m h1 h2
    split at h
    ·rename_i hc
     cases h
     obtain ⟨rfl, hlen⟩ := hc
     obtain ⟨d, ps, hd, ha⟩ := hx 0 f rfl
     match ds, hd with
     | d' :: ds, hd =>
       simp at hd; subst hd
       simp only [List.map_cons, DataW.weightsEach] at hs
       obtain ⟨v1, g1, g2, z1, y1⟩ := hr _ _ _ _ _ h1 ho.1 (fun x hx => hs x (List.mem_append_left _ hx)) ha
       obtain ⟨v2, g3, g4, z2, y2⟩ := lV hr cs (ds := ds) h2 ho.2 (fun x hx => hs x (List.mem_append_right _ hx)) (fun i g hg => by simpa using hx (i + 1) g (by simpa using hg)) hl
       refine ⟨v1 ++ v2, ?_, ik g2 g4, jj g2 z1 z2, jr g2 y1 y2⟩
       have e : cs.drop f.offset = (cs.drop f.offset).take (P.cellsOf f.type) ++ cs.drop (f.offset + P.cellsOf f.type) := by
        rw [← List.drop_drop]; exact (List.take_append_drop _ _).symm
       rw [e, List.map_append]
       exact fZ g1 g3
    ·cases h
   ·cases h
theorem uc {fuel k : Nat} {e : TypeId} {us : List Ty} (hr : ∀ cs d ps, small (DataW.weights P e d) -> DataW.trod enc P w base spare held fuel e cs = some (d, ps) -> ∃ vs, vrs w [] Nu.nil vs (cs.map aM) /\ aJ us vs /\ d5 us vs /\ dp us vs) (cs : List Value) :
 ∀ (n m : Nat), cs.length = (m + n) * k -> (∀ i, m <= i -> i < m + n -> ∃ d ps, small (DataW.weights P e d) /\ DataW.trod enc P w base spare held fuel e ((cs.drop (i * k)).take k) = some (d, ps)) -> ∃ vs, vrs w [] Nu.nil vs ((cs.drop (m * k)).map aM) /\ aJ (List.replicate n us).flatten vs /\ d5 (List.replicate n us).flatten vs /\ dp (List.replicate n us).flatten vs := by
 intro n
 induction n with
 | zero => intro m hl _; exact ⟨[], by rw [List.drop_eq_nil_of_le (by simp at hl; omega)]; simp [vrs], by simp [aJ], trivial, trivial⟩
 | succ n ih =>
   intro m hl h
   obtain ⟨d, ps, hs, hx⟩ := h m (Nat.le_refl _) (by omega)
   obtain ⟨v1, g1, g2, z1, y1⟩ := hr _ _ _ hs hx
   obtain ⟨v2, g3, g4, z2, y2⟩ := ih (m + 1) (by rw [hl]; congr 1; omega) (fun i h1 h2 => h i (by omega) (by omega))
   refine ⟨v1 ++ v2, ?_, by rw [List.replicate_succ, List.flatten_cons]; exact ik g2 g4, by rw [List.replicate_succ, List.flatten_cons]; exact jj g2 z1 z2, by rw [List.replicate_succ, List.flatten_cons]; exact jr g2 y1 y2⟩
   have e : cs.drop (m * k) = (cs.drop (m * k)).take k ++ cs.drop ((m + 1) * k) := by
    rw [Nat.succ_mul, ← List.drop_drop]; exact (List.take_append_drop _ _).symm
   rw [e, List.map_append]
   exact fZ g1 g3
theorem CS : ∀ (fuel fu : Nat) (t : TypeId) (ts : List Ty) (cs : List Value) (d : DataW H) (ps : List MemPlace), eY P fu t = some ts -> tg P fu t = true -> small (DataW.weights P t d) -> DataW.trod enc P w base spare held fuel t cs = some (d, ps) -> ∃ vs, vrs w [] Nu.nil vs (cs.map aM) /\ aJ ts vs /\ d5 ts vs /\ dp ts vs := by
 intro fuel
 induction fuel with
 | zero => intro fu t ts cs d ps _ _ _ h; cases h
 | succ fuel ih =>
   intro fu t ts cs d ps ht hk hs h
   cases fu with
   | zero => cases ht
   | succ fu =>
     have hok := eX ht
     simp only [eY] at ht
     simp only [tg] at hk
     split at ht
     ·rename_i hu
      cases ht
      obtain ⟨b, rfl, _⟩ := DataW.trod_bool hu h
      exact ⟨[.bool b], by simp [vrs, vr, aM], by simp [aJ, bw, hdV, tlV, bv], ⟨trivial, trivial⟩, trivial, trivial⟩
     ·rename_i k hu
      cases ht
      obtain ⟨n, rfl, _, hwf⟩ := DataW.trod_int hu h
      exact ⟨[.int k n], by simp [vrs, vr, aM], by simp [aJ, bw, hdV, tlV, iv], ⟨CN hwf, trivial⟩, by simp [dp, lB]⟩
     ·rename_i hu
      cases ht
      obtain ⟨b, rfl, _, hb⟩ := DataW.trod_string hu h
      exact ⟨[.str b], by simp [vrs, vr, aM], by simp [aJ, bw, hdV, tlV, sv], ⟨(show b.size <= 9223372036854775807 by unfold maxLen at hb; omega), trivial⟩, by simp [dp, lB]⟩
     ·rename_i e hu
      rw [hu] at hk
      dsimp only at hk
      split at ht
      ·rename_i us hus
       rw [hus] at hk
       simp only [Bool.and_eq_true, decide_eq_true_eq] at hk
       split at ht
       ·rename_i hlen
        cases ht
        have hcell := eX hus
        rcases DataW.trod_slice hu h with ⟨rfl, _⟩ | ⟨a, len, cap, elems, rest, n, hn, rfl, hx, _, h3, h4, h5, h6, _⟩
        ·exact ⟨[.sl 0 fun _ => []], by simp only [List.map_cons, List.map_nil, aM, vrs, vr]; exact ⟨_, _, rfl, ⟨none, 0, 0, rfl, Nat.le_refl _, by omega, trivial, fun i hi => by omega⟩, rfl⟩, by simp only [aJ, bw, hdV, tlV, bR, Az]; exact ⟨trivial, ⟨.inl rfl, hcell, fun i hi => by omega⟩, trivial⟩, ⟨(fun i hi => by simp [bR, hdV] at hi), trivial⟩, by simp only [dp, lB, hdV, bR]; exact ⟨⟨by omega, fun i hi => by omega⟩, trivial⟩⟩
        ·cases hn
         simp only [Prod.mk.injEq] at hx
         obtain ⟨rfl, _⟩ := hx
         simp only [DataW.weights, hu] at hs
         have hbig : len * zP us <= 140737488351232 := by
          have h1 := hs _ List.mem_cons_self
          simp only [List.length_map, reachBytes] at h1
          have h2 : len * zP us <= (elems.length + rest.length) * P.bytesOf e := Nat.mul_le_mul (by omega) hk.1
          omega
         obtain ⟨v, g1, g2, _⟩ := Ac (w := w) (a := a) (n := len) (c := cap) (esz := P.cellsOf e) (ts := us) h3 h4 hcell hbig (fun i hi => by
          have h7 := h6 i hi
          rw [List.getElem?_eq_getElem (by omega)] at h7
          cases hcs : w.cells? base (a.add (i * P.cellsOf e)) (P.cellsOf e) with
          | none => rw [hcs] at h7; cases h7
          | some cs' =>
            rw [hcs] at h7
            have hsi : small (DataW.weights P e elems[i].1) := pX (l := elems.map (·.1)) (i := i) (fun x hx => hs x (List.mem_cons_of_mem _ (List.mem_append_left _ hx))) (by rw [List.getElem?_map, List.getElem?_eq_getElem (by omega)]; rfl)
            obtain ⟨vs, g1, g2, z2, y2⟩ := ih fu e us cs' elems[i].1 elems[i].2 hus hk.2 hsi h7
            unfold World.cells? at hcs
            split at hcs
            ·rw [List.range_eq_range'] at hcs
             exact ⟨cs', fO _ 0 cs' hcs, vs, g1, ⟨g2, z2, y2⟩, mh g2 hcell⟩
            ·cases hcs)
         exact ⟨[v], by simp only [List.map_cons, List.map_nil, aM, vrs]; exact ⟨_, _, rfl, g1, rfl⟩, by simp only [aJ, hdV, tlV]; exact ⟨trivial, g2.1, trivial⟩, ⟨g2.2.1, trivial⟩, ⟨g2.2.2, trivial⟩⟩
       ·cases ht
      ·cases ht
     ·rename_i fs hu
      rw [hu] at hk
      dsimp only at hk
      split at ht
      ·rename_i us n hf
       split at ht
       ·rename_i hn
        cases ht
        obtain ⟨xs, m, hm, hx, h3, h4, h5⟩ := DataW.trod_struct hu h
        cases hm
        simp only [Prod.mk.injEq] at hx
        obtain ⟨rfl, _⟩ := hx
        simp only [DataW.weights, hu] at hs
        have := lV (off := 0) (ok := tg P fu) (fun t ts cs d ps => ih fu t ts cs d ps) cs hf hk hs (fun i f hf' => by
         have hi : i < fs.size := by
          have := (List.getElem?_eq_some_iff.1 hf').1
          simpa using this
         have h6 := h5 i f (by simpa using hf')
         rw [List.getElem?_eq_getElem (by omega)] at h6
         exact ⟨xs[i].1, xs[i].2, by rw [List.getElem?_map, List.getElem?_eq_getElem (by omega)]; rfl, h6⟩) (by rw [h3, hn])
        simpa using this
       ·cases ht
      ·cases ht
     ·rename_i n e hu
      rw [hu] at hk
      dsimp only at hk
      split at ht
      ·rename_i us hus
       split at ht
       ·rename_i hc
        cases ht
        obtain ⟨xs, m, hm, hx, h3, h4, h5⟩ := DataW.trod_array hu h
        cases hm
        simp only [Prod.mk.injEq] at hx
        obtain ⟨rfl, _⟩ := hx
        simp only [DataW.weights, hu] at hs
        have := uc (k := P.cellsOf e) (fun cs d ps => ih fu e us cs d ps hus hk) cs n 0 (by rw [h3, hc.2]; simp) (fun i _ hi => by
         have h6 := h5 i (by omega)
         rw [List.getElem?_eq_getElem (by omega)] at h6
         exact ⟨xs[i].1, xs[i].2, pX (l := xs.map (·.1)) (i := i) hs (by rw [List.getElem?_map, List.getElem?_eq_getElem (by omega)]; rfl), h6⟩)
        simpa using this
       ·cases ht
      ·cases ht
     ·cases ht
end
section
variable {P : Program} {H : Type} {enc : TypeId × Value -> H} {W : World} {base : Nat}
theorem JH {fu : Nat} {t : TypeId} {ty : Ty} {v : Value} {d : DataW H} {ps : List MemPlace} {b : Nat} {spare : Nat -> Bool} {held : Bool} (ht : BE P fu t = some ty) (hk : tg P fu t = true) (hs : small (DataW.weights P t d)) (hv : Value.okWide P W .any base t v) (h : DataW.Trod enc P W b spare held t v d ps) :
 ∃ x, vr W [] Nu.nil x (kK v) /\ bw ty x /\ rl ty x /\ lB ty x := by
 obtain ⟨fuel, h⟩ := h
 unfold BE at ht
 unfold Value.okWide at hv
 split at ht
 ·rename_i fs hu
  rw [hu] at hv
  obtain ⟨cs, rfl, _, _⟩ := hv
  simp only [Option.map_eq_some_iff] at ht
  obtain ⟨ts, hts, rfl⟩ := ht
  obtain ⟨vs, g1, g2, z2, y2⟩ := CS fuel fu t ts _ d ps hts hk hs h
  exact ⟨.agg vs, by simp only [kK, vr]; exact ⟨_, rfl, g1⟩, by simp only [bw, cz]; exact ⟨trivial, g2⟩, z2, by simp only [lB, cz]; exact y2⟩
 ·rename_i n e hu
  rw [hu] at hv
  obtain ⟨cs, rfl, _, _⟩ := hv
  simp only [Option.map_eq_some_iff] at ht
  obtain ⟨ts, hts, rfl⟩ := ht
  obtain ⟨vs, g1, g2, z2, y2⟩ := CS fuel fu t ts _ d ps hts hk hs h
  exact ⟨.agg vs, by simp only [kK, vr]; exact ⟨_, rfl, g1⟩, by simp only [bw, cz]; exact ⟨trivial, g2⟩, z2, by simp only [lB, cz]; exact y2⟩
 ·rename_i k hu
  cases ht
  obtain ⟨n, hc, _, hwf⟩ := DataW.trod_int hu h
  have : v = .int k n := by
   rw [hu] at hv
   unfold Cell.okWide at hv
   rw [hu] at hv
   cases v <;> simp_all [Value.cells, Cell.ok]
  subst this
  exact ⟨.int k n, by simp [kK, aM, vr], by simp [bw, iv], CN hwf, by simp [lB]⟩
 ·rename_i hu
  cases ht
  obtain ⟨n, hc, _⟩ := DataW.trod_bool hu h
  have : v = .bool n := by
   rw [hu] at hv
   unfold Cell.okWide at hv
   rw [hu] at hv
   cases v <;> simp_all [Value.cells, Cell.ok]
  subst this
  exact ⟨.bool n, by simp [kK, aM, vr], by simp [bw, bv], trivial, by simp [lB]⟩
 ·cases ht
theorem BI {fu : Nat} {b : Nat} {spare : Nat -> Bool} {held : Bool} : ∀ {ts : List TypeId} {tys : List Ty} {vs : List Value} {ds : List (DataW H)} {ps : List MemPlace}, argTys P fu ts = some tys -> ts.all (tg P fu) = true -> small (DataW.weightsEach P ts ds) -> (∀ (j : Nat) t v, ts[j]? = some t -> vs[j]? = some v -> Value.okWide P W .any base t v) -> DataW.TrodAll enc P W b spare held ts vs ds ps ->
 ∃ xs, vrs W [] Nu.nil xs (vs.map kK) /\ aJ tys xs /\ d5 tys xs /\ dp tys xs
 | [], tys, [], [], ps, ht, _, _, _, h => by simp only [argTys, Option.some.injEq] at ht; subst ht; exact ⟨[], by simp [vrs], by simp [aJ], trivial, trivial⟩
 | t :: ts, tys, v :: vs, d :: ds, ps, ht, hk, hs, hv, h => by
   simp only [argTys] at ht
   simp only [List.all_cons, Bool.and_eq_true] at hk
   simp only [DataW.weightsEach] at hs
   split at ht
   ·rename_i x xs hx hxs
    cases ht
    obtain ⟨p, q, h1, h2, _⟩ := h
    obtain ⟨y, g1, g2, z1, y1⟩ := JH hx hk.1 (fun x hx => hs x (List.mem_append_left _ hx)) (hv 0 t v rfl rfl) h1
    obtain ⟨ys, g3, g4, z2, y2⟩ := BI hxs hk.2 (fun x hx => hs x (List.mem_append_right _ hx)) (fun j t v hj hvj => hv (j + 1) t v (by simpa using hj) (by simpa using hvj)) h2
    exact ⟨y :: ys, by simp only [List.map_cons, vrs]; exact ⟨_, _, rfl, g1, g3⟩, by simp only [aJ, hdV, tlV]; exact ⟨trivial, g2, g4⟩, ⟨z1, z2⟩, ⟨y1, y2⟩⟩
   ·cases ht
 | [], _, _ :: _, _, _, _, _, _, _, h => by simp [DataW.TrodAll] at h
 | [], _, [], _ :: _, _, _, _, _, _, h => by simp [DataW.TrodAll] at h
 | _ :: _, _, [], _, _, _, _, _, _, h => by simp [DataW.TrodAll] at h
 | _ :: _, _, _ :: _, [], _, _, _, _, _, h => by simp [DataW.TrodAll] at h
def lawD (tys : List Ty) : aX := mkC tys (fun vs => d5 tys vs /\ dp tys vs) fun _ => .bool true
theorem law_callsD {f : FuncId} {fu b : Nat} {spare : Nat -> Bool} {held : Bool} {tys : List Ty} {ts : List TypeId} {args : Array Value} {ds : List (DataW H)} {ps : List MemPlace} (hOk : (vP (lawD tys)).Ok P f) (ht : argTys P fu ts = some tys) (hk : ts.all (tg P fu) = true) (hs : small (DataW.weightsEach P ts ds))
 (hv : ∀ (j : Nat) t v, ts[j]? = some t -> args[j]? = some v -> Value.okWide P W .any base t v) (hA : DataW.TrodAll enc P W b spare held ts args.toList ds ps) :
 Calls P f args W fun e W' => e = .returned (.bool true) /\ Below W.heap.size W W' := by
 obtain ⟨xs, g1, g2, z2, y2⟩ := BI (vs := args.toList) ht hk hs (fun j t v hj hvj => hv j t v hj (by simpa using hvj)) hA
 obtain ⟨_, hc⟩ := hOk.sound ⟨W, W, fun _ => False, []⟩ (fun _ => none) [] W (args.toList.map kK) args.toList (fun r _ => r = .bool true) (aC.start W) (oo _)
  ⟨aq tys xs, _, _, _, el tys xs _ g2 g1, rfl, ⟨dW tys xs [], by rw [(gY tys _ [] [] (dW tys xs [])).1]; exact ⟨e7 tys _ (e7 tys xs z2), fe tys _ (fe tys xs y2)⟩⟩, rfl, rfl⟩
 refine hc.mono fun e w' ⟨v, r, m', lh', he, hr, _, hh, hk⟩ => ?_
 subst hk
 simp only [vrel] at hr
 subst hr
 exact ⟨he, hh.os, hh.tape, hh.output, hh.fsize, hh.old⟩
end
end Go.Dx
namespace Go.Dx
open Go.IntKind (i64 u64 u8)
open Go.Sx Go.Proofs
noncomputable section
def qX : bj := [(20, .con C20), (19, .con C19), (17, .con C17), (57, .con C57), (131, .con yA), (19, .con C19), (22, .con C22), (25, .con C25), (15, .con C15), (55, .con C55), (61, .con C61), (74, .con C74), (108, .con zI), (46, .con C46), (111, .con xc), (56, .con C56), (47, .con C47), (145, .con xf), (140, .con w5), (49, .con C49), (123, .con xk), (30, .con C30), (44, .con C44), (23, .con C23), (62, .con C62), (68, .con C68), (63, .con C63), (69, .con C69), (117, .inl AD u0), (116, .inl AQ u0), (115, .con wv), (114, .con wm), (147, .con xL), (64, .con C64), (66, .con C66), (113, .con uH), (65, .con C65), (67, .con C67), (53, .con C53), (45, .con C45), (90, .con C90), (119, .con vF), (121, .con uM), (99, .con C99), (129, .con vl), (148, .con uY), (149, .con uz), (112, .con vV), (118, .con vN), (120, .con wj), (133, .con vJ), (103, .con vZ), (77, .con C77), (100, .con vC), (134, .con wd), (135, .con v8), (78, .con C78), (54, .con C54), (48, .con C48), (102, .con vc), (29, .con C29), (84, .con C84), (85, .con C85), (127, .con uX), (101, .con uC), (86, .con C86), (162, .con uG), (146, .con v7), (83, .inl s83 u0), (28, .inl s28 u0)]
theorem Hp : bb Tryz.prog eqs its qX := .con M6 (.con AS (.con JV (.con Kv (.con wF (.con AS (.con Cp (.con Cg (.con C5 (.con C6 (.con Dg (.con Ds (.con vH (.con CA (.con sr (.con AV (.con Ad (.con rY (.con rU (.con Aj (.con rD (.con Ag (.con zQ (.con Ae (.con A3 (.con Ar (.con zV (.con Ap (.inl Tryz.func117 (by kernel_rfl) (by kernel_rfl) (by kernel_rfl) (.inl Tryz.func116 (by kernel_rfl) (by kernel_rfl) (by kernel_rfl) (.con sH (.con sO (.con sF (.con zK (.con Au (.con qd (.con xQ (.con xv (.con xB (.con w7 (.con wQ (.con qV (.con o5 (.con xS (.con oZ (.con pg (.con qh (.con pV (.con qO (.con pM (.con qb (.con q7 (.con wX (.con qU (.con pr (.con rb (.con wS (.con w9 (.con wk (.con pW (.con wR (.con wu (.con wD (.con pi (.con rf (.con wo (.con po (.con sN (.inl Tryz.func83 (by kernel_rfl) (by kernel_rfl) (by kernel_rfl) (.inl Tryz.func28 (by kernel_rfl) (by kernel_rfl) (by kernel_rfl) (.nil))))))))))))))))))))))))))))))))))))))))))))))))))))))))))))))))))))))
attribute [local irreducible] jF iL jR iC jZ iu eF fx kH kY
inductive S8 where
 | L0 (ia0 : Int) (na1 : Nat) (fa2 : Nat -> List V)
 | L1 (ib0 ib1 : Int) (sb2 : ByteArray) (ib3 : Int) (nb4 : Nat) (ib5 : Int) (nb6 : Nat) (fb7 : Nat -> List V) (fb8 : Nat -> List V)
 | L2 (ic0 ic1 : Int) (nc2 nc3 : Nat) (fc4 : Nat -> List V) (fc5 : Nat -> List V)
 | L3 (id0 id1 id2 : Int) (nd3 nd4 nd5 : Nat) (fd6 : Nat -> List V) (fd7 : Nat -> List V) (fd8 : Nat -> List V)
 | L4 (ie0 ie1 ie2 ie3 : Int) (ne4 ne5 ne6 ne7 : Nat) (fe8 : Nat -> List V) (fe9 : Nat -> List V) (fe10 : Nat -> List V) (fe11 : Nat -> List V)
def pf8 (n0 : Nat) (f0 : FnV) (n2 : Nat) (f2 : FnV) (n4 : Nat) (f4 : FnV) (n6 : Nat) (f6 : FnV) (x8 x9 x10 x11 x12 x13 x14 : Int) (b15 : Bool) (x16 x17 : Int) (l : List O) : List O := O.cells [V.sl n0 (elV tyR f0), V.sl n2 (elV tyT f2), V.sl n4 (elV tyF f4), V.sl n6 (elV tyC f6)] 27 :: O.cells [vi x8, vi x9, vi x10, vi x11, vi x12, vi x13, vi x14] 31 :: O.cells [V.bool b15, vi x16, vi x17] 60 :: l
def BY (n0 : Nat) (f0 : FnV) (n2 : Nat) (f2 : FnV) (n4 : Nat) (f4 : FnV) (n6 : Nat) (f6 : FnV) (x8 x9 x10 x11 x12 x13 x14 : Int) (b15 : Bool) (x16 x17 : Int) : S8 -> Env × List O × Option Ex
 | .L0 ia0 na1 fa2 => ([(6, vi ia0), (5, V.pl 3 0), (4, V.pl 4 0), (3, V.pl 5 0), (2, V.pl 6 0)], pf8 n0 f0 n2 f2 n4 f4 n6 f6 x8 x9 x10 x11 x12 x13 x14 b15 x16 x17 [O.cells [V.gs 7 na1, V.ns, V.ns, V.ns] 27, O.cells [V.ns, V.ns, V.ns, V.ns] 27, O.cells [V.bool b15, vi x16, vi x17] 60, O.cells [V.sl n0 (elV tyR f0), V.sl n2 (elV tyT f2), V.sl n4 (elV tyF f4), V.sl n6 (elV tyC f6)] 27, O.gl 4 na1 (elV tyR fa2) 54], none)
 | .L1 ib0 ib1 sb2 ib3 nb4 ib5 nb6 fb7 fb8 => ([(8, vi ib0), (7, V.pl 3 0), (6, vi ib1), (5, V.pl 4 0), (4, V.pl 5 0), (3, V.pl 6 0), (2, V.pl 7 0)], pf8 n0 f0 n2 f2 n4 f4 n6 f6 x8 x9 x10 x11 x12 x13 x14 b15 x16 x17 [O.cells [V.str sb2, vi ib3, V.gs 8 nb4, vi ib5] 54, O.cells [V.gs 9 nb6, V.ns, V.ns, V.ns] 27, O.cells [V.ns, V.ns, V.ns, V.ns] 27, O.cells [V.bool b15, vi x16, vi x17] 60, O.cells [V.sl n0 (elV tyR f0), V.sl n2 (elV tyT f2), V.sl n4 (elV tyF f4), V.sl n6 (elV tyC f6)] 27, O.gl 2 nb4 (elV tp2 fb7) 72, O.gl 4 nb6 (elV tyR fb8) 54], none)
 | .L2 ic0 ic1 nc2 nc3 fc4 fc5 => ([(9, vi ic0), (6, vi ic1), (5, V.pl 3 0), (4, V.pl 4 0), (3, V.pl 5 0), (2, V.pl 6 0)], pf8 n0 f0 n2 f2 n4 f4 n6 f6 x8 x9 x10 x11 x12 x13 x14 b15 x16 x17 [O.cells [V.gs 7 nc2, V.gs 8 nc3, V.ns, V.ns] 27, O.cells [V.ns, V.ns, V.ns, V.ns] 27, O.cells [V.bool b15, vi x16, vi x17] 60, O.cells [V.sl n0 (elV tyR f0), V.sl n2 (elV tyT f2), V.sl n4 (elV tyF f4), V.sl n6 (elV tyC f6)] 27, O.gl 4 nc2 (elV tyR fc4) 54, O.gl 5 nc3 (elV tyT fc5) 57], none)
 | .L3 id0 id1 id2 nd3 nd4 nd5 fd6 fd7 fd8 => ([(11, vi id0), (9, vi id1), (6, vi id2), (5, V.pl 3 0), (4, V.pl 4 0), (3, V.pl 5 0), (2, V.pl 6 0)], pf8 n0 f0 n2 f2 n4 f4 n6 f6 x8 x9 x10 x11 x12 x13 x14 b15 x16 x17 [O.cells [V.gs 7 nd3, V.gs 8 nd4, V.gs 9 nd5, V.ns] 27, O.cells [V.ns, V.ns, V.ns, V.ns] 27, O.cells [V.bool b15, vi x16, vi x17] 60, O.cells [V.sl n0 (elV tyR f0), V.sl n2 (elV tyT f2), V.sl n4 (elV tyF f4), V.sl n6 (elV tyC f6)] 27, O.gl 4 nd3 (elV tyR fd6) 54, O.gl 5 nd4 (elV tyT fd7) 57, O.gl 5 nd5 (elV tyF fd8) 123], none)
 | .L4 ie0 ie1 ie2 ie3 ne4 ne5 ne6 ne7 fe8 fe9 fe10 fe11 => ([(13, vi ie0), (11, vi ie1), (9, vi ie2), (6, vi ie3), (5, V.pl 3 0), (4, V.pl 4 0), (3, V.pl 5 0), (2, V.pl 6 0)], pf8 n0 f0 n2 f2 n4 f4 n6 f6 x8 x9 x10 x11 x12 x13 x14 b15 x16 x17 [O.cells [V.gs 7 ne4, V.gs 8 ne5, V.gs 9 ne6, V.gs 10 ne7] 27, O.cells [V.ns, V.ns, V.ns, V.ns] 27, O.cells [V.bool b15, vi x16, vi x17] 60, O.cells [V.sl n0 (elV tyR f0), V.sl n2 (elV tyT f2), V.sl n4 (elV tyF f4), V.sl n6 (elV tyC f6)] 27, O.gl 4 ne4 (elV tyR fe8) 54, O.gl 5 ne5 (elV tyT fe9) 57, O.gl 5 ne6 (elV tyF fe10) 123, O.gl 6 ne7 (elV tyC fe11) 100], none)
def id8 : S8 -> JJ
 | .L0 ia0 na1 fa2 => (0, [])
 | .L1 ib0 ib1 sb2 ib3 nb4 ib5 nb6 fb7 fb8 => (1, [])
 | .L2 ic0 ic1 nc2 nc3 fc4 fc5 => (2, [])
 | .L3 id0 id1 id2 nd3 nd4 nd5 fd6 fd7 fd8 => (3, [])
 | .L4 ie0 ie1 ie2 ie3 ne4 ne5 ne6 ne7 fe8 fe9 fe10 fe11 => (4, [])
def rl8 (n0 : Nat) (f0 : FnV) (n2 : Nat) (f2 : FnV) (n4 : Nat) (f4 : FnV) (n6 : Nat) (f6 : FnV) (x8 x9 x10 x11 x12 x13 x14 : Int) (b15 : Bool) (x16 x17 : Int) : T (cr JJ) := be JJ qX u0 s8 [scV n0 f0 n2 f2 n4 f4 n6 f6, V.agg [vi x8, vi x9, vi x10, vi x11, vi x12, vi x13, vi x14], V.agg [V.bool b15, vi x16, vi x17]]
def yU (n0 : Nat) (f0 : FnV) (n2 : Nat) (f2 : FnV) (n4 : Nat) (f4 : FnV) (n6 : Nat) (f6 : FnV) (x8 x9 x10 x11 x12 x13 x14 : Int) (b15 : Bool) (x16 x17 : Int) (cx : List Cx) : Lp JJ := lpT (atT (rl8 n0 f0 n2 f2 n4 f4 n6 f6 x8 x9 x10 x11 x12 x13 x14 b15 x16 x17) [false])
def Kz (n0 : Nat) (f0 : FnV) (n2 : Nat) (f2 : FnV) (n4 : Nat) (f4 : FnV) (n6 : Nat) (f6 : FnV) (x8 x9 x10 x11 x12 x13 x14 : Int) (b15 : Bool) (x16 x17 : Int) (cx : List Cx) : Lp JJ := lpT (atT (rdP qX u0 (0, []) (yU n0 f0 n2 f2 n4 f4 n6 f6 x8 x9 x10 x11 x12 x13 x14 b15 x16 x17 []) (BY n0 f0 n2 f2 n4 f4 n6 f6 x8 x9 x10 x11 x12 x13 x14 b15 x16 x17 (.L0 (0 : Int) 0 (fun _ => [])))) [true])
def Fu (n0 : Nat) (f0 : FnV) (n2 : Nat) (f2 : FnV) (n4 : Nat) (f4 : FnV) (n6 : Nat) (f6 : FnV) (x8 x9 x10 x11 x12 x13 x14 : Int) (b15 : Bool) (x16 x17 : Int) (cx : List Cx) : Lp JJ := lpT (atT (rdP qX u0 (0, []) (yU n0 f0 n2 f2 n4 f4 n6 f6 x8 x9 x10 x11 x12 x13 x14 b15 x16 x17 []) (BY n0 f0 n2 f2 n4 f4 n6 f6 x8 x9 x10 x11 x12 x13 x14 b15 x16 x17 (.L0 (0 : Int) 0 (fun _ => [])))) [false])
def Fd (n0 : Nat) (f0 : FnV) (n2 : Nat) (f2 : FnV) (n4 : Nat) (f4 : FnV) (n6 : Nat) (f6 : FnV) (x8 x9 x10 x11 x12 x13 x14 : Int) (b15 : Bool) (x16 x17 : Int) (cx : List Cx) : Lp JJ := lpT (atT (rdP qX u0 (2, []) (Fu n0 f0 n2 f2 n4 f4 n6 f6 x8 x9 x10 x11 x12 x13 x14 b15 x16 x17 []) (BY n0 f0 n2 f2 n4 f4 n6 f6 x8 x9 x10 x11 x12 x13 x14 b15 x16 x17 (.L2 (0 : Int) (0 : Int) 0 0 (fun _ => []) (fun _ => [])))) [false])
def La (n0 : Nat) (f0 : FnV) (n2 : Nat) (f2 : FnV) (n4 : Nat) (f4 : FnV) (n6 : Nat) (f6 : FnV) (x8 x9 x10 x11 x12 x13 x14 : Int) (b15 : Bool) (x16 x17 : Int) (cx : List Cx) : Lp JJ := lpT (atT (rdP qX u0 (3, []) (Fd n0 f0 n2 f2 n4 f4 n6 f6 x8 x9 x10 x11 x12 x13 x14 b15 x16 x17 []) (BY n0 f0 n2 f2 n4 f4 n6 f6 x8 x9 x10 x11 x12 x13 x14 b15 x16 x17 (.L3 (0 : Int) (0 : Int) (0 : Int) 0 0 0 (fun _ => []) (fun _ => []) (fun _ => [])))) [false])
def lp8 (n0 : Nat) (f0 : FnV) (n2 : Nat) (f2 : FnV) (n4 : Nat) (f4 : FnV) (n6 : Nat) (f6 : FnV) (x8 x9 x10 x11 x12 x13 x14 : Int) (b15 : Bool) (x16 x17 : Int) : JJ -> Lp JJ
 | (0, cx) => yU n0 f0 n2 f2 n4 f4 n6 f6 x8 x9 x10 x11 x12 x13 x14 b15 x16 x17 cx
 | (1, cx) => Kz n0 f0 n2 f2 n4 f4 n6 f6 x8 x9 x10 x11 x12 x13 x14 b15 x16 x17 cx
 | (2, cx) => Fu n0 f0 n2 f2 n4 f4 n6 f6 x8 x9 x10 x11 x12 x13 x14 b15 x16 x17 cx
 | (3, cx) => Fd n0 f0 n2 f2 n4 f4 n6 f6 x8 x9 x10 x11 x12 x13 x14 b15 x16 x17 cx
 | (4, cx) => La n0 f0 n2 f2 n4 f4 n6 f6 x8 x9 x10 x11 x12 x13 x14 b15 x16 x17 cx
 | (_, cx) => yU n0 f0 n2 f2 n4 f4 n6 f6 x8 x9 x10 x11 x12 x13 x14 b15 x16 x17 cx
def D8 (n0 : Nat) (f0 : FnV) (n2 : Nat) (f2 : FnV) (n4 : Nat) (f4 : FnV) (n6 : Nat) (f6 : FnV) (x8 x9 x10 x11 x12 x13 x14 : Int) (b15 : Bool) (x16 x17 : Int) : LD JJ S8 := ⟨id8, lp8 n0 f0 n2 f2 n4 f4 n6 f6 x8 x9 x10 x11 x12 x13 x14 b15 x16 x17, BY n0 f0 n2 f2 n4 f4 n6 f6 x8 x9 x10 x11 x12 x13 x14 b15 x16 x17⟩
def st8 (n0 : Nat) (f0 : FnV) (n2 : Nat) (f2 : FnV) (n4 : Nat) (f4 : FnV) (n6 : Nat) (f6 : FnV) (x8 x9 x10 x11 x12 x13 x14 : Int) (b15 : Bool) (x16 x17 : Int) : S8 -> RT S8
 | .L0 ia0 na1 fa2 => .asm (true = true -> n0 <= 9223372036854775807) (.br (decide (ia0 < (↑n0 : Int))) (.ob (decide (0 <= ia0 /\ ia0 < (↑n0 : Int))) (.enter (iR 0 3 [some (some 8), some (some 3), some (some 4), some (some 5), some (some 6), some none, some (some 7)]) (S8.L1 (0) (ia0) (sv (hdV (f0 ia0.toNat))) (jv1 (f0 ia0.toNat)) (0) (jv3 (f0 ia0.toNat)) (na1) (fun i => []) (elV tyR fa2)) [⟨9, tyR, na1, elV tyR fa2, ak rfl _ _⟩])) (.enter (iR 0 8 [some none]) (S8.L2 (0) (ia0) (na1) (0) (elV tyR fa2) (fun i => [])) [⟨7, tyR, na1, elV tyR fa2, ak rfl _ _⟩]))
 | .L1 ib0 ib1 sb2 ib3 nb4 ib5 nb6 fb7 fb8 => .ob (decide (0 <= ib1 /\ ib1 < (↑n0 : Int))) (.asm (true = true -> bR (hdV (tlV (tlV (f0 ib1.toNat)))) <= 9223372036854775807) (.br (decide (ib0 < (↑(bR (hdV (tlV (tlV (f0 ib1.toNat))))) : Int))) (.ob (decide (0 <= ib1 /\ ib1 < (↑n0 : Int))) (.ob (decide (0 <= ib0 /\ ib0 < (↑(bR (hdV (tlV (tlV (f0 ib1.toNat))))) : Int))) (.obc (.obt (.obt (.ob (decide (nb4 <= nb4 /\ (nb4 + 1) * 16 <= 140737488355328) && !Nat.beq 16 0) (.next (iR 0 8 [some (some 11), some (some 9)]) (S8.L1 (i64.wrap (ib0 + 1)) (ib1) (sb2) (ib3) (nb4 + 1) (ib5) (nb6) (aI nb4 (elV tp2 fb7) fun x => [vi (nM b15 x16 (jv0 (atV (hdV (tlV (tlV (f0 ib1.toNat)))) ib0.toNat)) (jv1 (atV (hdV (tlV (tlV (f0 ib1.toNat)))) ib0.toNat))), vi (og b15 x17 (jv0 (atV (hdV (tlV (tlV (f0 ib1.toNat)))) ib0.toNat)) (jv1 (atV (hdV (tlV (tlV (f0 ib1.toNat)))) ib0.toNat)))]) (elV tyR fb8)) [⟨8, tp2, nb4 + 1, aI nb4 (elV tp2 fb7) fun x => [vi (nM b15 x16 (jv0 (atV (hdV (tlV (tlV (f0 ib1.toNat)))) ib0.toNat)) (jv1 (atV (hdV (tlV (tlV (f0 ib1.toNat)))) ib0.toNat))), vi (og b15 x17 (jv0 (atV (hdV (tlV (tlV (f0 ib1.toNat)))) ib0.toNat)) (jv1 (atV (hdV (tlV (tlV (f0 ib1.toNat)))) ib0.toNat)))], cH (ak rfl _ _) (bM rfl _ rfl)⟩, ⟨9, tyR, nb6, elV tyR fb8, ak rfl _ _⟩]))))))) (.obt (.ob (decide (nb6 <= nb6 /\ (nb6 + 1) * 56 <= 140737488355328) && !Nat.beq 56 0) (.nextz [⟨8, tp2, nb4, elV tp2 fb7, ak rfl _ _⟩] [⟨11, nb6 + 1, aI nb6 (elV tyR fb8) fun x => [V.str sb2, vi ib3, V.gs 8 nb4, vi ib5], aI nb6 (elV tyR fb8) fun x => [V.str sb2, vi ib3, V.sl nb4 (elV tp2 fb7), vi ib5], Ei (It _ _) (BK _ (⟨frE _, ⟨frE _, ⟨frG (ts := tp2) (f := elV tp2 fb7) (List.Mem.head _) rfl rfl rfl (Nat.le_refl _), ⟨frE _, trivial⟩⟩⟩⟩))⟩] (iR 0 3 [some (some 4), some (some 5), some (some 6), some (some 7), some (some 11)]) (S8.L0 (i64.wrap (ib1 + 1)) (nb6 + 1) (aI nb6 (elV tyR fb8) fun x => [V.str sb2, vi ib3, V.sl nb4 (elV tp2 fb7), vi ib5])) [⟨7, tyR, nb6 + 1, aI nb6 (elV tyR fb8) fun x => [V.str sb2, vi ib3, V.sl nb4 (elV tp2 fb7), vi ib5], cH (ak rfl _ _) (bM rfl _ rfl)⟩])))))
 | .L2 ic0 ic1 nc2 nc3 fc4 fc5 => .asm (true = true -> n2 <= 9223372036854775807) (.br (decide (ic0 < (↑n2 : Int))) (.ob (decide (0 <= ic0 /\ ic0 < (↑n2 : Int))) (.obc (.obt (.obt (.ob (decide (nc3 <= nc3 /\ (nc3 + 1) * 40 <= 140737488355328) && !Nat.beq 40 0) (.next (iR 0 8 [some (some 11)]) (S8.L2 (i64.wrap (ic0 + 1)) (ic1) (nc2) (nc3 + 1) (elV tyR fc4) (aI nc3 (elV tyT fc5) fun x => [vi (bg b15 x16 (jv0 (f2 ic0.toNat)) (jv1 (f2 ic0.toNat))), vi (bh b15 x17 (jv0 (f2 ic0.toNat)) (jv1 (f2 ic0.toNat))), vi (jv2 (f2 ic0.toNat)), vi (jv3 (f2 ic0.toNat)), vi (jv4 (f2 ic0.toNat))])) [⟨7, tyR, nc2, elV tyR fc4, ak rfl _ _⟩, ⟨8, tyT, nc3 + 1, aI nc3 (elV tyT fc5) fun x => [vi (bg b15 x16 (jv0 (f2 ic0.toNat)) (jv1 (f2 ic0.toNat))), vi (bh b15 x17 (jv0 (f2 ic0.toNat)) (jv1 (f2 ic0.toNat))), vi (jv2 (f2 ic0.toNat)), vi (jv3 (f2 ic0.toNat)), vi (jv4 (f2 ic0.toNat))], cH (ak rfl _ _) (bM rfl _ rfl)⟩])))))) (.enter (iR 0 9 [some none]) (S8.L3 (0) (ic0) (ic1) (nc2) (nc3) (0) (elV tyR fc4) (elV tyT fc5) (fun i => [])) [⟨7, tyR, nc2, elV tyR fc4, ak rfl _ _⟩, ⟨8, tyT, nc3, elV tyT fc5, ak rfl _ _⟩]))
 | .L3 id0 id1 id2 nd3 nd4 nd5 fd6 fd7 fd8 => .asm (true = true -> n4 <= 9223372036854775807) (.br (decide (id0 < (↑n4 : Int))) (.ob (decide (0 <= id0 /\ id0 < (↑n4 : Int))) (.obc (.obt (.obc (.obt (.obt (.ob (decide (nd5 <= nd5 /\ (nd5 + 1) * 56 <= 140737488355328) && !Nat.beq 56 0) (.next (iR 0 9 [some (some 12)]) (S8.L3 (i64.wrap (id0 + 1)) (id1) (id2) (nd3) (nd4) (nd5 + 1) (elV tyR fd6) (elV tyT fd7) (aI nd5 (elV tyF fd8) fun x => [vi (nM b15 x16 (jv0 (f4 id0.toNat)) (jv1 (f4 id0.toNat))), vi (og b15 x17 (jv0 (f4 id0.toNat)) (jv1 (f4 id0.toNat))), vi (nM b15 x16 (jv2 (f4 id0.toNat)) (jv3 (f4 id0.toNat))), vi (og b15 x17 (jv2 (f4 id0.toNat)) (jv3 (f4 id0.toNat))), V.sl (bR (hdV (tlV (tlV (tlV (tlV (f4 id0.toNat))))))) fun i => aq tp4 (atV (hdV (tlV (tlV (tlV (tlV (f4 id0.toNat)))))) i)])) [⟨7, tyR, nd3, elV tyR fd6, ak rfl _ _⟩, ⟨8, tyT, nd4, elV tyT fd7, ak rfl _ _⟩, ⟨9, tyF, nd5 + 1, aI nd5 (elV tyF fd8) fun x => [vi (nM b15 x16 (jv0 (f4 id0.toNat)) (jv1 (f4 id0.toNat))), vi (og b15 x17 (jv0 (f4 id0.toNat)) (jv1 (f4 id0.toNat))), vi (nM b15 x16 (jv2 (f4 id0.toNat)) (jv3 (f4 id0.toNat))), vi (og b15 x17 (jv2 (f4 id0.toNat)) (jv3 (f4 id0.toNat))), V.sl (bR (hdV (tlV (tlV (tlV (tlV (f4 id0.toNat))))))) fun i => aq tp4 (atV (hdV (tlV (tlV (tlV (tlV (f4 id0.toNat)))))) i)], cH (ak rfl _ _) (bM rfl _ rfl)⟩])))))))) (.enter (iR 0 10 [some none]) (S8.L4 (0) (id0) (id1) (id2) (nd3) (nd4) (nd5) (0) (elV tyR fd6) (elV tyT fd7) (elV tyF fd8) (fun i => [])) [⟨7, tyR, nd3, elV tyR fd6, ak rfl _ _⟩, ⟨8, tyT, nd4, elV tyT fd7, ak rfl _ _⟩, ⟨9, tyF, nd5, elV tyF fd8, ak rfl _ _⟩]))
 | .L4 ie0 ie1 ie2 ie3 ne4 ne5 ne6 ne7 fe8 fe9 fe10 fe11 => .asm (true = true -> n6 <= 9223372036854775807) (.br (decide (ie0 < (↑n6 : Int))) (.ob (decide (0 <= ie0 /\ ie0 < (↑n6 : Int))) (.obc (.obt (.obc (.obt (.obt (.ob (decide (ne7 <= ne7 /\ (ne7 + 1) * 56 <= 140737488355328) && !Nat.beq 56 0) (.next (iR 0 10 [some (some 13)]) (S8.L4 (i64.wrap (ie0 + 1)) (ie1) (ie2) (ie3) (ne4) (ne5) (ne6) (ne7 + 1) (elV tyR fe8) (elV tyT fe9) (elV tyF fe10) (aI ne7 (elV tyC fe11) fun x => [V.str (sv (hdV (f6 ie0.toNat))), vi (bg b15 x16 (jv1 (f6 ie0.toNat)) (jv2 (f6 ie0.toNat))), vi (bh b15 x17 (jv1 (f6 ie0.toNat)) (jv2 (f6 ie0.toNat))), vi (jv3 (f6 ie0.toNat)), vi (bg b15 0 (jv4 (f6 ie0.toNat)) (jv5 (f6 ie0.toNat))), vi (bh b15 0 (jv4 (f6 ie0.toNat)) (jv5 (f6 ie0.toNat)))])) [⟨7, tyR, ne4, elV tyR fe8, ak rfl _ _⟩, ⟨8, tyT, ne5, elV tyT fe9, ak rfl _ _⟩, ⟨9, tyF, ne6, elV tyF fe10, ak rfl _ _⟩, ⟨10, tyC, ne7 + 1, aI ne7 (elV tyC fe11) fun x => [V.str (sv (hdV (f6 ie0.toNat))), vi (bg b15 x16 (jv1 (f6 ie0.toNat)) (jv2 (f6 ie0.toNat))), vi (bh b15 x17 (jv1 (f6 ie0.toNat)) (jv2 (f6 ie0.toNat))), vi (jv3 (f6 ie0.toNat)), vi (bg b15 0 (jv4 (f6 ie0.toNat)) (jv5 (f6 ie0.toNat))), vi (bh b15 0 (jv4 (f6 ie0.toNat)) (jv5 (f6 ie0.toNat)))], cH (ak rfl _ _) (bM rfl _ rfl)⟩])))))))) (.obp ((∀ (i : Nat), i < ne4 -> (sv (hdV (fe8 i))).size <= (9223372036854775807 : Nat)) /\ ∀ (i : Nat), i < ne7 -> (sv (hdV (fe11 i))).size <= (9223372036854775807 : Nat)) (.obt (.ob (ne4.ble ne4) (.ob (ne5.ble ne5) (.ob (ne6.ble ne6) (.ob (ne7.ble ne7) (.obi (.obi (.br (bif ef ne4 (elV tyR fe8) ne5 (elV tyT fe9) ne6 (elV tyF fe10) ne7 (elV tyC fe11) != 0 then true else !ot x11 x12 x13 x14) (.obc (.obt (.ret (V.bool true)))) (.obc (.obt (.obc (.obt (.obc (.obt (.obp ((∀ (i : Nat), i < n0 -> (sv (hdV (f0 i))).size <= (9223372036854775807 : Nat)) /\ ∀ (i : Nat), i < n6 -> (sv (hdV (f6 i))).size <= (9223372036854775807 : Nat)) (.obt (.obp ((∀ (i : Nat), i < ne4 -> (sv (hdV (fe8 i))).size <= (9223372036854775807 : Nat)) /\ ∀ (i : Nat), i < ne7 -> (sv (hdV (fe11 i))).size <= (9223372036854775807 : Nat)) (.obt (.ob (ne4.ble ne4) (.ob (ne5.ble ne5) (.ob (ne6.ble ne6) (.ob (ne7.ble ne7) (.obi (.obi (.obi (.obi (.obi (.obi (.obi (.obi (.br (bif iC ne4 (elV tyR fe8) ne5 (elV tyT fe9) ne6 (elV tyF fe10) ne7 (elV tyC fe11) x8 (bg b15 x16 x9 x10) (bh b15 x17 x9 x10) == 0 then bif iC n0 (elV tyR f0) n2 (elV tyT f2) n4 (elV tyF f4) n6 (elV tyC f6) x8 x9 x10 != iC ne4 (elV tyR fe8) ne5 (elV tyT fe9) ne6 (elV tyF fe10) ne7 (elV tyC fe11) x8 (bg b15 x16 x9 x10) (bh b15 x17 x9 x10) then true else !jR n0 (elV tyR f0) n2 (elV tyT f2) n4 (elV tyF f4) n6 (elV tyC f6) x8 x9 x10 == jR ne4 (elV tyR fe8) ne5 (elV tyT fe9) ne6 (elV tyF fe10) ne7 (elV tyC fe11) x8 (bg b15 x16 x9 x10) (bh b15 x17 x9 x10) else false) (.ret (V.kb false)) (.obp ((∀ (i : Nat), i < n0 -> (sv (hdV (f0 i))).size <= (9223372036854775807 : Nat)) /\ ∀ (i : Nat), i < n6 -> (sv (hdV (f6 i))).size <= (9223372036854775807 : Nat)) (.obt (.obp ((∀ (i : Nat), i < ne4 -> (sv (hdV (fe8 i))).size <= (9223372036854775807 : Nat)) /\ ∀ (i : Nat), i < ne7 -> (sv (hdV (fe11 i))).size <= (9223372036854775807 : Nat)) (.obt (.ob (ne4.ble ne4) (.ob (ne5.ble ne5) (.ob (ne6.ble ne6) (.ob (ne7.ble ne7) (.obi (.obi (.obi (.obi (.obi (.obi (.obi (.obi (.br (bif iu ne4 (elV tyR fe8) ne5 (elV tyT fe9) ne6 (elV tyF fe10) ne7 (elV tyC fe11) x8 (bg b15 x16 x9 x10) (bh b15 x17 x9 x10) == 0 then bif iu n0 (elV tyR f0) n2 (elV tyT f2) n4 (elV tyF f4) n6 (elV tyC f6) x8 x9 x10 != iu ne4 (elV tyR fe8) ne5 (elV tyT fe9) ne6 (elV tyF fe10) ne7 (elV tyC fe11) x8 (bg b15 x16 x9 x10) (bh b15 x17 x9 x10) then true else jZ n0 (elV tyR f0) n2 (elV tyT f2) n4 (elV tyF f4) n6 (elV tyC f6) x8 x9 x10 != jZ ne4 (elV tyR fe8) ne5 (elV tyT fe9) ne6 (elV tyF fe10) ne7 (elV tyC fe11) x8 (bg b15 x16 x9 x10) (bh b15 x17 x9 x10) else false) (.ret (V.kb false)) (.obp ((∀ (i : Nat), i < n0 -> (sv (hdV (f0 i))).size <= (9223372036854775807 : Nat)) /\ ∀ (i : Nat), i < n6 -> (sv (hdV (f6 i))).size <= (9223372036854775807 : Nat)) (.obt (.obp ((∀ (i : Nat), i < ne4 -> (sv (hdV (fe8 i))).size <= (9223372036854775807 : Nat)) /\ ∀ (i : Nat), i < ne7 -> (sv (hdV (fe11 i))).size <= (9223372036854775807 : Nat)) (.obt (.ob (ne4.ble ne4) (.ob (ne5.ble ne5) (.ob (ne6.ble ne6) (.ob (ne7.ble ne7) (.obi (.obi (.obi (.obi (.obi (.obi (.obi (.obi (.br (bif iL ne4 (elV tyR fe8) ne5 (elV tyT fe9) ne6 (elV tyF fe10) ne7 (elV tyC fe11) x8 (min (bg b15 x16 x11 x12) (bg b15 x16 x13 x14)) (min (bh b15 x17 x11 x12) (bh b15 x17 x13 x14)) (max (bg b15 x16 x11 x12) (bg b15 x16 x13 x14)) (max (bh b15 x17 x11 x12) (bh b15 x17 x13 x14)) == 0 then bif iL n0 (elV tyR f0) n2 (elV tyT f2) n4 (elV tyF f4) n6 (elV tyC f6) x8 x11 x12 x13 x14 != iL ne4 (elV tyR fe8) ne5 (elV tyT fe9) ne6 (elV tyF fe10) ne7 (elV tyC fe11) x8 (min (bg b15 x16 x11 x12) (bg b15 x16 x13 x14)) (min (bh b15 x17 x11 x12) (bh b15 x17 x13 x14)) (max (bg b15 x16 x11 x12) (bg b15 x16 x13 x14)) (max (bh b15 x17 x11 x12) (bh b15 x17 x13 x14)) then true else jF n0 (elV tyR f0) n2 (elV tyT f2) n4 (elV tyF f4) n6 (elV tyC f6) x8 x11 x12 x13 x14 != jF ne4 (elV tyR fe8) ne5 (elV tyT fe9) ne6 (elV tyF fe10) ne7 (elV tyC fe11) x8 (min (bg b15 x16 x11 x12) (bg b15 x16 x13 x14)) (min (bh b15 x17 x11 x12) (bh b15 x17 x13 x14)) (max (bg b15 x16 x11 x12) (bg b15 x16 x13 x14)) (max (bh b15 x17 x11 x12) (bh b15 x17 x13 x14)) else false) (.ret (V.kb false)) (.obp ((∀ (i : Nat), i < n0 -> (sv (hdV (f0 i))).size <= (9223372036854775807 : Nat)) /\ ∀ (i : Nat), i < n6 -> (sv (hdV (f6 i))).size <= (9223372036854775807 : Nat)) (.obt (.obp ((∀ (i : Nat), i < ne4 -> (sv (hdV (fe8 i))).size <= (9223372036854775807 : Nat)) /\ ∀ (i : Nat), i < ne7 -> (sv (hdV (fe11 i))).size <= (9223372036854775807 : Nat)) (.obt (.ob (ne4.ble ne4) (.ob (ne5.ble ne5) (.ob (ne6.ble ne6) (.ob (ne7.ble ne7) (.obi (.obi (.obi (.obi (.obi (.obi (.obi (.obi (.br (bif fx ne4 (elV tyR fe8) ne5 (elV tyT fe9) ne6 (elV tyF fe10) ne7 (elV tyC fe11) x8 (min (bg b15 x16 x11 x12) (bg b15 x16 x13 x14)) (min (bh b15 x17 x11 x12) (bh b15 x17 x13 x14)) (max (bg b15 x16 x11 x12) (bg b15 x16 x13 x14)) (max (bh b15 x17 x11 x12) (bh b15 x17 x13 x14)) == 0 then bif fx n0 (elV tyR f0) n2 (elV tyT f2) n4 (elV tyF f4) n6 (elV tyC f6) x8 x11 x12 x13 x14 != fx ne4 (elV tyR fe8) ne5 (elV tyT fe9) ne6 (elV tyF fe10) ne7 (elV tyC fe11) x8 (min (bg b15 x16 x11 x12) (bg b15 x16 x13 x14)) (min (bh b15 x17 x11 x12) (bh b15 x17 x13 x14)) (max (bg b15 x16 x11 x12) (bg b15 x16 x13 x14)) (max (bh b15 x17 x11 x12) (bh b15 x17 x13 x14)) then true else eF n0 (elV tyR f0) n2 (elV tyT f2) n4 (elV tyF f4) n6 (elV tyC f6) x8 x11 x12 x13 x14 != eF ne4 (elV tyR fe8) ne5 (elV tyT fe9) ne6 (elV tyF fe10) ne7 (elV tyC fe11) x8 (min (bg b15 x16 x11 x12) (bg b15 x16 x13 x14)) (min (bh b15 x17 x11 x12) (bh b15 x17 x13 x14)) (max (bg b15 x16 x11 x12) (bg b15 x16 x13 x14)) (max (bh b15 x17 x11 x12) (bh b15 x17 x13 x14)) else false) (.ret (V.kb false)) (.obp ((∀ (i : Nat), i < n0 -> (sv (hdV (f0 i))).size <= (9223372036854775807 : Nat)) /\ ∀ (i : Nat), i < n6 -> (sv (hdV (f6 i))).size <= (9223372036854775807 : Nat)) (.obt (.obp ((∀ (i : Nat), i < ne4 -> (sv (hdV (fe8 i))).size <= (9223372036854775807 : Nat)) /\ ∀ (i : Nat), i < ne7 -> (sv (hdV (fe11 i))).size <= (9223372036854775807 : Nat)) (.obt (.ob (ne4.ble ne4) (.ob (ne5.ble ne5) (.ob (ne6.ble ne6) (.ob (ne7.ble ne7) (.obi (.obi (.obi (.br (bif kY n0 (elV tyR f0) n2 (elV tyT f2) n4 (elV tyF f4) n6 (elV tyC f6) x8 0 == kY ne4 (elV tyR fe8) ne5 (elV tyT fe9) ne6 (elV tyF fe10) ne7 (elV tyC fe11) x8 0 then kH n0 (elV tyR f0) n2 (elV tyT f2) n4 (elV tyF f4) n6 (elV tyC f6) x8 0 == kH ne4 (elV tyR fe8) ne5 (elV tyT fe9) ne6 (elV tyF fe10) ne7 (elV tyC fe11) x8 0 else false) (.obc (.obt (.ret (V.bool true)))) (.ret (V.kb false))))))))))))))))))))))))))))))))))))))))))))))))))))))))))))))))))))))))))))))))))))))))))))))))))
def m8 (n0 : Nat) (f0 : FnV) (n2 : Nat) (f2 : FnV) (n4 : Nat) (f4 : FnV) (n6 : Nat) (f6 : FnV) (x8 x9 x10 x11 x12 x13 x14 : Int) (b15 : Bool) (x16 x17 : Int) : RT S8 := .obp ((∀ (i : Nat), i < n0 -> (sv (hdV (f0 i))).size <= (9223372036854775807 : Nat)) /\ ∀ (i : Nat), i < n6 -> (sv (hdV (f6 i))).size <= (9223372036854775807 : Nat)) (.obt (.obi (.obi (.obi (.obi (.obi (.obi (.obi (.obi (.obi (.obi (.obi (.obi (.obi (.obi (.obi (.obi (.obi (.obi (.obi (.obi (.obi (.obi (.obi (.obi (.br (bif bif bif bif bif bif bif bif ef n0 (elV tyR f0) n2 (elV tyT f2) n4 (elV tyF f4) n6 (elV tyC f6) != 0 then true else decide (x16 < -100000) then true else decide (100000 < x16) then true else decide (x17 < -100000) then true else decide (100000 < x17) then true else decide (x9 < -100000) then true else decide (100000 < x9) then true else decide (x10 < -100000) then true else decide (100000 < x10)) (.obc (.obt (.ret (V.bool true)))) (.obc (.obt (.enter (iR 0 3 [some (some 6), some (some 5), some (some 4), some (some 3), some none]) (S8.L0 (0) (0) (fun i => [])) [])))))))))))))))))))))))))))))
theorem Lv (n0 : Nat) (f0 : FnV) (n2 : Nat) (f2 : FnV) (n4 : Nat) (f4 : FnV) (n6 : Nat) (f6 : FnV) (x8 x9 x10 x11 x12 x13 x14 : Int) (b15 : Bool) (x16 x17 : Int) : je qX u0 (D8 n0 f0 n2 f2 n4 f4 n6 f6 x8 x9 x10 x11 x12 x13 x14 b15 x16 x17) (rl8 n0 f0 n2 f2 n4 f4 n6 f6 x8 x9 x10 x11 x12 x13 x14 b15 x16 x17) (m8 n0 f0 n2 f2 n4 f4 n6 f6 x8 x9 x10 x11 x12 x13 x14 b15 x16 x17) (st8 n0 f0 n2 f2 n4 f4 n6 f6 x8 x9 x10 x11 x12 x13 x14 b15 x16 x17) := ⟨⟨by kernel_rfl, by kernel_rfl⟩, fun s => by cases s <;> exact ⟨by kernel_rfl, by kernel_rfl⟩⟩
theorem vd (n : Nat) : Nat.ble n n = true := Nat.ble_eq_true_of_le (Nat.le_refl n)
theorem uE {t : Bool} {u x y : Int} (hu : -100000 <= u /\ u <= 100000) (hx : -100000 <= x /\ x <= 100000) (hy : -100000 <= y /\ y <= 100000) : bg t u x y = mx t x y + u := by
 unfold bg mx
 cases t with
 | true => show i64.wrap (i64.wrap (0 - y) + u) = -y + u; rw [av (x := 0 - y) (by omega) (by omega), av (by omega) (by omega)]; omega
 | false => exact av (x := x + u) (by omega) (by omega)
theorem vo {t : Bool} {u x y : Int} (hu : -100000 <= u /\ u <= 100000) (hx : -100000 <= x /\ x <= 100000) (hy : -100000 <= y /\ y <= 100000) : bh t u x y = my t x y + u := by
 unfold bh my
 cases t with
 | true => exact av (x := x + u) (by omega) (by omega)
 | false => exact av (x := y + u) (by omega) (by omega)
theorem jO {P : Nat -> List V -> Prop} {n : Nat} {f : Nat -> List V} {l : List V} {ts : List Ty} (hv : ∀ j q, P j q -> P j (aq ts q)) (h : ∀ j, j < n -> P j (f j)) (hl : P n l) : ∀ j, j < n + 1 -> P j (aI n (elV ts f) (fun _ => l) j) := fun j hj => by
 unfold aI
 by_cases hlt : j < n
 ·have hb : Nat.blt j n = true := Nat.ble_eq_true_of_le hlt
  rw [hb]; exact hv j _ (h j hlt)
 ·have hb : Nat.blt j n = false := by
   cases hb : Nat.blt j n with
   | false => rfl
   | true => have := Nat.le_of_ble_eq_true hb; omega
  have e : j = n := by omega
  rw [hb, e]; exact hl
theorem er {P : Nat -> List V -> Prop} {n : Nat} {f : Nat -> List V} {ts : List Ty} (hv : ∀ j q, P j q -> P j (aq ts q)) (h : ∀ j, j < n -> P j (f j)) : ∀ j, j < n -> P j (elV ts f j) := fun j hj => hv j _ (h j hj)
def qR (t : Bool) (u v : Int) (f0 : FnV) (j : Nat) (q : List V) : Prop := MvR t u v (f0 j) q /\ sv (hdV q) = sv (hdV (f0 j))
def qT (t : Bool) (u v : Int) (f2 : FnV) (j : Nat) (q : List V) : Prop := MvT t u v (f2 j) q
def qF (t : Bool) (u v : Int) (f4 : FnV) (j : Nat) (q : List V) : Prop := MvF t u v (f4 j) q
def qC (t : Bool) (u v : Int) (f6 : FnV) (j : Nat) (q : List V) : Prop := MvC t u v (f6 j) q /\ sv (hdV q) = sv (hdV (f6 j))
section
variable {t : Bool} {u v : Int} {f : Nat -> List V}
theorem tJ (j : Nat) (q : List V) (h : qR t u v f j q) : qR t u v f j (aq tyR q) := ⟨⟨h.1.n, h.1.w, h.1.x, h.1.y⟩, h.2⟩
theorem Cz (j : Nat) (q : List V) (h : qT t u v f j q) : qT t u v f j (aq tyT q) := ⟨h.x, h.y, h.r, h.lo, h.hi⟩
theorem Gd (j : Nat) (q : List V) (h : qF t u v f j q) : qF t u v f j (aq tyF q) := ⟨h.x, h.y, h.x2, h.y2⟩
theorem MH (j : Nat) (q : List V) (h : qC t u v f j q) : qC t u v f j (aq tyC q) := ⟨⟨h.1.x, h.1.y, h.1.h⟩, h.2⟩
theorem M4 {p q : List V} (h : MvR t u v p q) : MvR t u v (aq tyR p) (aq tyR q) := ⟨h.n, h.w, h.x, h.y⟩
theorem MY {p q : List V} (h : MvT t u v p q) : MvT t u v (aq tyT p) (aq tyT q) := ⟨h.x, h.y, h.r, h.lo, h.hi⟩
theorem LO {p q : List V} (h : MvF t u v p q) : MvF t u v (aq tyF p) (aq tyF q) := ⟨h.x, h.y, h.x2, h.y2⟩
theorem Mf {p q : List V} (h : MvC t u v p q) : MvC t u v (aq tyC p) (aq tyC q) := ⟨h.x, h.y, h.h⟩
end
structure Hy8 (n0 : Nat) (f0 : FnV) (n2 : Nat) (f2 : FnV) (n4 : Nat) (f4 : FnV) (n6 : Nat) (f6 : FnV) (x9 x10 x16 x17 : Int) : Prop where
 z : cw n0 f0 /\ cw n6 f6
 e : bW n0 (elV tyR f0) n2 (elV tyT f2) n4 (elV tyF f4) n6 (elV tyC f6) = 0
 hx : -100000 <= x9 /\ x9 <= 100000
 hy : -100000 <= x10 /\ x10 <= 100000
 hu : -100000 <= x16 /\ x16 <= 100000
 hv : -100000 <= x17 /\ x17 <= 100000
section
variable {n0 : Nat} {f0 : Nat -> List V} {n2 : Nat} {f2 : Nat -> List V} {n4 : Nat} {f4 : Nat -> List V} {n6 : Nat} {f6 : Nat -> List V} {x9 x10 x16 x17 : Int} (H : Hy8 n0 f0 n2 f2 n4 f4 n6 f6 x9 x10 x16 x17)
include H
theorem Hy8.rd {i : Nat} (hi : i < n0) : ej (bR (hdV (tlV (tlV (f0 i))))) (fun j => aq tp2 (atV (hdV (tlV (tlV (f0 i)))) j)) (jv3 (f0 i)) := by
 have := (dK H.e).rd i hi
 rw [show cR n0 (elV tyR f0) i = cR n0 f0 i by unfold cR; rw [oA]] at this
 exact yE this
theorem Hy8.px {i j : Nat} (hi : i < n0) (hj : j < bR (hdV (tlV (tlV (f0 i))))) : (-100000 <= jv0 (atV (hdV (tlV (tlV (f0 i)))) j) /\ jv0 (atV (hdV (tlV (tlV (f0 i)))) j) <= 100000) /\ (-100000 <= jv1 (atV (hdV (tlV (tlV (f0 i)))) j) /\ jv1 (atV (hdV (tlV (tlV (f0 i)))) j) <= 100000) := (H.rd hi).pts j hj
theorem Hy8.tr {i : Nat} (hi : i < n2) : (-100000 <= jv0 (f2 i) /\ jv0 (f2 i) <= 100000) /\ (-100000 <= jv1 (f2 i) /\ jv1 (f2 i) <= 100000) := by
 have h := yJ ((dK H.e).tr i hi)
 exact ⟨h.1, h.2.1⟩
theorem Hy8.fr {i : Nat} (hi : i < n4) : ((-100000 <= jv0 (f4 i) /\ jv0 (f4 i) <= 100000) /\ (-100000 <= jv1 (f4 i) /\ jv1 (f4 i) <= 100000)) /\ (-100000 <= jv2 (f4 i) /\ jv2 (f4 i) <= 100000) /\ (-100000 <= jv3 (f4 i) /\ jv3 (f4 i) <= 100000) := by
 have a := (vO ((dK H.e).fr i hi)).1
 exact ⟨⟨a (jv0 (elV tyF f4 i)) (by simp), a (jv1 (elV tyF f4 i)) (by simp)⟩, a (jv2 (elV tyF f4 i)) (by simp), a (jv3 (elV tyF f4 i)) (by simp)⟩
theorem Hy8.cl {i : Nat} (hi : i < n6) : (-100000 <= jv1 (f6 i) /\ jv1 (f6 i) <= 100000) /\ (-100000 <= jv2 (f6 i) /\ jv2 (f6 i) <= 100000) := by
 have c := wI (xe (f6 := elV tyC f6) ((dK H.e).cl i hi))
 exact ⟨c.1, c.2.1⟩
end
theorem mbB {e f : Int} {a b : Bool} (h : f = 0 -> e = 0 /\ a = b) : (bif f == 0 then bif e != f then true else !a == b else false) = false := by
 by_cases hf : f = 0
 ·obtain ⟨h1, h2⟩ := h hf
  subst hf; subst h1; subst h2
  cases a <;> rfl
 ·rw [show (f == 0) = false from by simpa using hf]; rfl
theorem mbI {e f a b : Int} (h : f = 0 -> e = 0 /\ a = b) : (bif f == 0 then bif e != f then true else a != b else false) = false := by
 by_cases hf : f = 0
 ·obtain ⟨h1, h2⟩ := h hf
  subst hf; subst h1; subst h2
  simp
 ·rw [show (f == 0) = false from by simpa using hf]; rfl
theorem mbF {e f : Int} {a b : Bool} (h : e = f /\ a = b) : (bif e == f then a == b else false) = true := by
 obtain ⟨h1, h2⟩ := h
 subst h1; subst h2
 simp
theorem Mm {a b c d : Int} (h : ot a b c d = true) : fh a b c d = true := by
 refine Jc ?_
 unfold ot at h
 revert h
 generalize (bif bif bif bif bif decide (a < -100000) then true else decide (b < -100000) then true else decide (100000 < c) then true else decide (100000 < d) then true else decide (c < a) then true else decide (d < b)) = w
 cases w with
 | true => intro h; cases h
 | false => intro _; rfl
theorem Ng (n0 : Nat) (f0 : FnV) (n2 : Nat) (f2 : FnV) (n4 : Nat) (f4 : FnV) (n6 : Nat) (f6 : FnV) (x8 x9 x10 x11 x12 x13 x14 : Int) (b15 : Bool) (x16 x17 : Int) (H : Hy8 n0 f0 n2 f2 n4 f4 n6 f6 x9 x10 x16 x17) : ∀ i, i <= n6 -> ∀ (i1 i2 i3 : Int) (fR fT fF f : Nat -> List V), (∀ j, j < n0 -> qR b15 x16 x17 f0 j (fR j)) -> (∀ j, j < n2 -> qT b15 x16 x17 f2 j (fT j)) -> (∀ j, j < n4 -> qF b15 x16 x17 f4 j (fF j)) -> (∀ j, j < i -> qC b15 x16 x17 f6 j (f j)) ->
 Ev (st8 n0 f0 n2 f2 n4 f4 n6 f6 x8 x9 x10 x11 x12 x13 x14 b15 x16 x17) (.L4 (i : Int) i1 i2 i3 n0 n2 n4 i fR fT fF f) (.bool true) := by
 have hl := (dK H.e).l6
 refine cX fun i hi ih i1 i2 i3 fR fT fF f hR hT hF hC => ?_
 by_cases hlt : i < n6
 ·refine Ev.of rfl (bE fun _ => cg (dqt (by omega)) (al (dqt (by omega)) (ar (ae (ar (ae (ae (al ?_ (aN ?_)))))))))
  ·simp only [Bool.and_eq_true]; exact ⟨dqt ⟨Nat.le_refl _, by omega⟩, rfl⟩
  ·rw [ol hlt (by omega), Int.toNat_natCast]
   have c := H.cl hlt
   exact ih hlt _ _ _ _ _ _ _ (er tJ hR) (er Cz hT) (er Gd hF) (jO MH hC ⟨⟨uE H.hu c.1 c.2, vo H.hv c.1 c.2, rfl⟩, rfl⟩)
 ·have e : i = n6 := by omega
  subst e
  have hg : cw n0 fR /\ cw i f := ⟨fun j hj => by rw [(hR j hj).2]; exact H.z.1 j hj, fun j hj => by rw [(hC j hj).2]; exact H.z.2 j hj⟩
  have hp := H.z
  refine Ev.of rfl (bE fun _ => cI (dqf (by omega)) ?_)
  (repeat' (first | refine af ?_ | refine ae ?_ | refine ar ?_ | refine bN hp ?_ | refine bN hg ?_ | refine al (vd _) ?_))
  refine aO (fun h => ?_) (fun h => ?_)
  ·(repeat' (first | refine af ?_ | refine ae ?_ | refine ar ?_ | refine bN hp ?_ | refine bN hg ?_ | refine al (vd _) ?_))
   exact ao rfl
  have h2 : bW n0 (elV tyR fR) n2 (elV tyT fT) n4 (elV tyF fF) i (elV tyC f) = 0 /\ ot x11 x12 x13 x14 = true := by
   rw [← sV]
   have h' : (bif ef n0 (elV tyR fR) n2 (elV tyT fT) n4 (elV tyF fF) i (elV tyC f) != 0 then true else !ot x11 x12 x13 x14) = false := h
   generalize ef _ _ _ _ _ _ _ _ = w at h' ⊢
   cases hw : w != 0 with
   | true => rw [hw] at h'; cases h'
   | false => rw [hw] at h'; exact ⟨by simpa using hw, by simpa using h'⟩
  have hP := Mm h2.2
  obtain ⟨p1, p2, p3, p4, p5, p6⟩ := gC hP
  have hq := K4 H.hx H.hy
  have k1 : bW n0 (elV tyR (elV tyR f0)) n2 (elV tyT (elV tyT f2)) n4 (elV tyF (elV tyF f4)) i (elV tyC (elV tyC f6)) = 0 := by rw [oA, oA, oA, oA]; exact H.e
  have k2 : bW n0 (elV tyR (elV tyR fR)) n2 (elV tyT (elV tyT fT)) n4 (elV tyF (elV tyF fF)) i (elV tyC (elV tyC f)) = 0 := by rw [oA, oA, oA, oA]; exact h2.1
  have mR : ∀ j, j < n0 -> MvR b15 x16 x17 (elV tyR f0 j) (elV tyR fR j) := fun j hj => M4 (hR j hj).1
  have mT : ∀ j, j < n2 -> MvT b15 x16 x17 (elV tyT f2 j) (elV tyT fT j) := fun j hj => MY (hT j hj)
  have mF : ∀ j, j < n4 -> MvF b15 x16 x17 (elV tyF f4 j) (elV tyF fF j) := fun j hj => LO (hF j hj)
  have mC : ∀ j, j < i -> MvC b15 x16 x17 (elV tyC f6 j) (elV tyC f j) := fun j hj => Mf (hC j hj).1
  have a1 : bg b15 x16 x9 x10 = mx b15 x9 x10 + x16 := uE H.hu H.hx H.hy
  have a2 : bh b15 x17 x9 x10 = my b15 x9 x10 + x17 := vo H.hv H.hx H.hy
  have a3 : bg b15 x16 x11 x12 = mx b15 x11 x12 + x16 := uE H.hu p1 p2
  have a4 : bh b15 x17 x11 x12 = my b15 x11 x12 + x17 := vo H.hv p1 p2
  have a5 : bg b15 x16 x13 x14 = mx b15 x13 x14 + x16 := uE H.hu p3 p4
  have a6 : bh b15 x17 x13 x14 = my b15 x13 x14 + x17 := vo H.hv p3 p4
  rw [a1, a2, a3, a4, a5, a6]
  (repeat' (first | refine af ?_ | refine ae ?_ | refine ar ?_ | refine bN hp ?_ | refine bN hg ?_ | refine al (vd _) ?_))
  refine cI (mbB fun hf => Jl mR k1 k2 hq hf) ?_
  (repeat' (first | refine af ?_ | refine ae ?_ | refine ar ?_ | refine bN hp ?_ | refine bN hg ?_ | refine al (vd _) ?_))
  refine cI (mbI fun hf => AM mT mC k1 k2 hq hf) ?_
  (repeat' (first | refine af ?_ | refine ae ?_ | refine ar ?_ | refine bN hp ?_ | refine bN hg ?_ | refine al (vd _) ?_))
  refine cI (mbI fun hf => Cf mR k1 k2 hP hf) ?_
  (repeat' (first | refine af ?_ | refine ae ?_ | refine ar ?_ | refine bN hp ?_ | refine bN hg ?_ | refine al (vd _) ?_))
  refine cI (mbI fun hf => C9 mT mC k1 k2 hP hf) ?_
  (repeat' (first | refine af ?_ | refine ae ?_ | refine ar ?_ | refine bN hp ?_ | refine bN hg ?_ | refine al (vd _) ?_))
  refine cg (mbF (BF mF mC k1 k2)) ?_
  (repeat' (first | refine af ?_ | refine ae ?_ | refine ar ?_ | refine bN hp ?_ | refine bN hg ?_ | refine al (vd _) ?_))
  exact ao rfl
theorem Nh (n0 : Nat) (f0 : FnV) (n2 : Nat) (f2 : FnV) (n4 : Nat) (f4 : FnV) (n6 : Nat) (f6 : FnV) (x8 x9 x10 x11 x12 x13 x14 : Int) (b15 : Bool) (x16 x17 : Int) (H : Hy8 n0 f0 n2 f2 n4 f4 n6 f6 x9 x10 x16 x17) : ∀ i, i <= n4 -> ∀ (i1 i2 : Int) (fR fT f : Nat -> List V), (∀ j, j < n0 -> qR b15 x16 x17 f0 j (fR j)) -> (∀ j, j < n2 -> qT b15 x16 x17 f2 j (fT j)) -> (∀ j, j < i -> qF b15 x16 x17 f4 j (f j)) ->
 Ev (st8 n0 f0 n2 f2 n4 f4 n6 f6 x8 x9 x10 x11 x12 x13 x14 b15 x16 x17) (.L3 (i : Int) i1 i2 n0 n2 i fR fT f) (.bool true) := by
 have hl := (dK H.e).l4
 refine cX fun i hi ih i1 i2 fR fT f hR hT hF => ?_
 by_cases hlt : i < n4
 ·refine Ev.of rfl (bE fun _ => cg (dqt (by omega)) (al (dqt (by omega)) (ar (ae (ar (ae (ae (al ?_ (aN ?_)))))))))
  ·simp only [Bool.and_eq_true]; exact ⟨dqt ⟨Nat.le_refl _, by omega⟩, rfl⟩
  ·rw [ol hlt (by omega), Int.toNat_natCast]
   have c := H.fr hlt
   exact ih hlt _ _ _ _ _ (er tJ hR) (er Cz hT) (jO Gd hF ⟨uE H.hu c.1.1 c.1.2, vo H.hv c.1.1 c.1.2, uE H.hu c.2.1 c.2.2, vo H.hv c.2.1 c.2.2⟩)
 ·have e : i = n4 := by omega
  subst e
  exact Ev.of rfl (bE fun _ => cI (dqf (by omega)) (aF (Ng n0 f0 n2 f2 i f4 n6 f6 x8 x9 x10 x11 x12 x13 x14 b15 x16 x17 H 0 (Nat.zero_le _) _ _ _ _ _ _ _ (er tJ hR) (er Cz hT) (er Gd hF) (fun j hj => absurd hj (Nat.not_lt_zero _)))))
theorem LX (n0 : Nat) (f0 : FnV) (n2 : Nat) (f2 : FnV) (n4 : Nat) (f4 : FnV) (n6 : Nat) (f6 : FnV) (x8 x9 x10 x11 x12 x13 x14 : Int) (b15 : Bool) (x16 x17 : Int) (H : Hy8 n0 f0 n2 f2 n4 f4 n6 f6 x9 x10 x16 x17) : ∀ i, i <= n2 -> ∀ (i1 : Int) (fR f : Nat -> List V), (∀ j, j < n0 -> qR b15 x16 x17 f0 j (fR j)) -> (∀ j, j < i -> qT b15 x16 x17 f2 j (f j)) ->
 Ev (st8 n0 f0 n2 f2 n4 f4 n6 f6 x8 x9 x10 x11 x12 x13 x14 b15 x16 x17) (.L2 (i : Int) i1 n0 i fR f) (.bool true) := by
 have hl := (dK H.e).l2
 refine cX fun i hi ih i1 fR f hR hT => ?_
 by_cases hlt : i < n2
 ·refine Ev.of rfl (bE fun _ => cg (dqt (by omega)) (al (dqt (by omega)) (ar (ae (ae (al ?_ (aN ?_)))))))
  ·simp only [Bool.and_eq_true]; exact ⟨dqt ⟨Nat.le_refl _, by omega⟩, rfl⟩
  ·rw [ol hlt (by omega), Int.toNat_natCast]
   have c := H.tr hlt
   exact ih hlt _ _ _ (er tJ hR) (jO Cz hT ⟨uE H.hu c.1 c.2, vo H.hv c.1 c.2, rfl, rfl, rfl⟩)
 ·have e : i = n2 := by omega
  subst e
  exact Ev.of rfl (bE fun _ => cI (dqf (by omega)) (aF (Nh n0 f0 i f2 n4 f4 n6 f6 x8 x9 x10 x11 x12 x13 x14 b15 x16 x17 H 0 (Nat.zero_le _) _ _ _ _ _ (er tJ hR) (er Cz hT) (fun j hj => absurd hj (Nat.not_lt_zero _)))))
theorem LZ (n0 : Nat) (f0 : FnV) (n2 : Nat) (f2 : FnV) (n4 : Nat) (f4 : FnV) (n6 : Nat) (f6 : FnV) (x8 x9 x10 x11 x12 x13 x14 : Int) (b15 : Bool) (x16 x17 : Int) (H : Hy8 n0 f0 n2 f2 n4 f4 n6 f6 x9 x10 x16 x17) {i : Nat} (hi : i < n0) (ih : ∀ f : Nat -> List V, (∀ j, j < i + 1 -> qR b15 x16 x17 f0 j (f j)) -> Ev (st8 n0 f0 n2 f2 n4 f4 n6 f6 x8 x9 x10 x11 x12 x13 x14 b15 x16 x17) (.L0 ((i + 1 : Nat) : Int) (i + 1) f) (.bool true)) :
 ∀ k, k <= bR (hdV (tlV (tlV (f0 i)))) -> ∀ (g f : Nat -> List V), (∀ j, j < k -> jv0 (g j) = mx b15 (jv0 (atV (hdV (tlV (tlV (f0 i)))) j)) (jv1 (atV (hdV (tlV (tlV (f0 i)))) j)) + x16 /\ jv1 (g j) = my b15 (jv0 (atV (hdV (tlV (tlV (f0 i)))) j)) (jv1 (atV (hdV (tlV (tlV (f0 i)))) j)) + x17) -> (∀ j, j < i -> qR b15 x16 x17 f0 j (f j)) ->
 Ev (st8 n0 f0 n2 f2 n4 f4 n6 f6 x8 x9 x10 x11 x12 x13 x14 b15 x16 x17) (.L1 (k : Int) (i : Int) (sv (hdV (f0 i))) (jv1 (f0 i)) k (jv3 (f0 i)) i g f) (.bool true) := by
 have h8 := (H.rd hi).eight
 have hl := (dK H.e).l0
 refine cX fun k hk ihk g f hg hf => ?_
 by_cases hlt : k < bR (hdV (tlV (tlV (f0 i))))
 ·refine Ev.of rfl (al (dqt (by omega)) (bE fun _ => cg (dqt (by rw [Int.toNat_natCast]; omega)) (al (dqt (by omega)) (al (dqt (by rw [Int.toNat_natCast]; omega)) (ar (ae (ae (al ?_ (aN ?_)))))))))
  ·simp only [Bool.and_eq_true]; exact ⟨dqt ⟨Nat.le_refl _, by omega⟩, rfl⟩
  ·rw [ol hlt (by omega), Int.toNat_natCast, Int.toNat_natCast]
   have c := H.px hi hlt
   exact ihk hlt _ _ (jO (P := fun j q => jv0 q = mx b15 (jv0 (atV (hdV (tlV (tlV (f0 i)))) j)) (jv1 (atV (hdV (tlV (tlV (f0 i)))) j)) + x16 /\ jv1 q = my b15 (jv0 (atV (hdV (tlV (tlV (f0 i)))) j)) (jv1 (atV (hdV (tlV (tlV (f0 i)))) j)) + x17) (fun j q h => h) hg ⟨uE H.hu c.1 c.2, vo H.hv c.1 c.2⟩) (er tJ hf)
 ·have e : k = bR (hdV (tlV (tlV (f0 i)))) := by omega
  refine Ev.of rfl (al (dqt (by omega)) (bE fun _ => cI (dqf (by rw [Int.toNat_natCast]; omega)) (ae (al ?_ (Eu ?_)))))
  ·simp only [Bool.and_eq_true]; exact ⟨dqt ⟨Nat.le_refl _, by omega⟩, rfl⟩
  ·rw [ol hi (by omega)]
   exact ih _ (jO tJ hf ⟨⟨e, rfl, fun j hj => (hg j (by omega)).1, fun j hj => (hg j (by omega)).2⟩, rfl⟩)
theorem Ll (n0 : Nat) (f0 : FnV) (n2 : Nat) (f2 : FnV) (n4 : Nat) (f4 : FnV) (n6 : Nat) (f6 : FnV) (x8 x9 x10 x11 x12 x13 x14 : Int) (b15 : Bool) (x16 x17 : Int) (H : Hy8 n0 f0 n2 f2 n4 f4 n6 f6 x9 x10 x16 x17) : ∀ i, i <= n0 -> ∀ f : Nat -> List V, (∀ j, j < i -> qR b15 x16 x17 f0 j (f j)) -> Ev (st8 n0 f0 n2 f2 n4 f4 n6 f6 x8 x9 x10 x11 x12 x13 x14 b15 x16 x17) (.L0 (i : Int) i f) (.bool true) := by
 have hl := (dK H.e).l0
 refine cX fun i hi ih f hf => ?_
 by_cases hlt : i < n0
 ·refine Ev.of rfl (bE fun _ => cg (dqt (by omega)) (al (dqt (by omega)) (aF ?_)))
  rw [Int.toNat_natCast]
  exact LZ n0 f0 n2 f2 n4 f4 n6 f6 x8 x9 x10 x11 x12 x13 x14 b15 x16 x17 H hlt (fun f hf => ih hlt f hf) 0 (Nat.zero_le _) _ _ (fun j hj => absurd hj (Nat.not_lt_zero _)) (er tJ hf)
 ·have e : i = n0 := by omega
  subst e
  exact Ev.of rfl (bE fun _ => cI (dqf (by omega)) (aF (LX i f0 n2 f2 n4 f4 n6 f6 x8 x9 x10 x11 x12 x13 x14 b15 x16 x17 H 0 (Nat.zero_le _) _ _ _ (er tJ hf) (fun j hj => absurd hj (Nat.not_lt_zero _)))))
theorem LQ (n0 : Nat) (f0 : FnV) (n2 : Nat) (f2 : FnV) (n4 : Nat) (f4 : FnV) (n6 : Nat) (f6 : FnV) (x8 x9 x10 x11 x12 x13 x14 : Int) (b15 : Bool) (x16 x17 : Int) (hp : cw n0 f0 /\ cw n6 f6) : evR (Ev (st8 n0 f0 n2 f2 n4 f4 n6 f6 x8 x9 x10 x11 x12 x13 x14 b15 x16 x17)) (m8 n0 f0 n2 f2 n4 f4 n6 f6 x8 x9 x10 x11 x12 x13 x14 b15 x16 x17) (.bool true) := by
 (repeat' (first | refine af ?_ | refine ae ?_ | refine ar ?_ | refine bN hp ?_))
 refine aO (fun h => ?_) (fun h => ?_)
 ·(repeat' (first | refine af ?_ | refine ae ?_ | refine ar ?_ | refine bN hp ?_))
  exact ao rfl
 have o2 : ∀ {p q : Bool}, (bif p then true else q) = false -> p = false /\ q = false := fun {p q} => by cases p <;> cases q <;> decide
 obtain ⟨h, z8⟩ := o2 h
 obtain ⟨h, z7⟩ := o2 h
 obtain ⟨h, z6⟩ := o2 h
 obtain ⟨h, z5⟩ := o2 h
 obtain ⟨h, z4⟩ := o2 h
 obtain ⟨h, z3⟩ := o2 h
 obtain ⟨h, z2⟩ := o2 h
 obtain ⟨z0, z1⟩ := o2 h
 have z1 := of_decide_eq_false z1
 have z2 := of_decide_eq_false z2
 have z3 := of_decide_eq_false z3
 have z4 := of_decide_eq_false z4
 have z5 := of_decide_eq_false z5
 have z6 := of_decide_eq_false z6
 have z7 := of_decide_eq_false z7
 have z8 := of_decide_eq_false z8
 (repeat' (first | refine af ?_ | refine ae ?_ | refine ar ?_ | refine bN hp ?_))
 exact aF (Ll n0 f0 n2 f2 n4 f4 n6 f6 x8 x9 x10 x11 x12 x13 x14 b15 x16 x17 ⟨hp, by rw [← sV]; simpa using z0, by omega, by omega, by omega, by omega⟩ 0 (Nat.zero_le _) _ (fun j hj => absurd hj (Nat.not_lt_zero _)))
def tys8 : List Ty := [.agg [.sl tyR, .sl tyT, .sl tyF, .sl tyC], .agg [.int .i64, .int .i64, .int .i64, .int .i64, .int .i64, .int .i64, .int .i64], .agg [.bool, .int .i64, .int .i64]]
theorem ok8 : (vP (lawD tys8)).Ok Tryz.prog 8 := mkE Hp Tryz.func8 (by kernel_rfl) fun ds hp => rfs (Lv ..) (LQ _ _ _ _ _ _ _ _ _ _ _ _ _ _ _ _ _ _ (by have h : d5 [.agg [.sl tyR, .sl tyT, .sl tyF, .sl tyC], .agg [.int .i64, .int .i64, .int .i64, .int .i64, .int .i64, .int .i64, .int .i64], .agg [.bool, .int .i64, .int .i64]] _ /\ dp [.agg [.sl tyR, .sl tyT, .sl tyF, .sl tyC], .agg [.int .i64, .int .i64, .int .i64, .int .i64, .int .i64, .int .i64, .int .i64], .agg [.bool, .int .i64, .int .i64]] _ := hp; exact ⟨fun i hi => (h.1.1.1 i hi).1, fun i hi => (h.1.1.2.2.2.1 i hi).1⟩))
end
end Go.Dx
