/- Part 5 of a proof. No conditions. -/
import Derived.Test.YtkdokmjehblpoaaGreatDoorCv4
set_option maxRecDepth 100000
set_option linter.unusedVariables false
set_option linter.unusedSimpArgs false
namespace Go.Dx
open Go.IntKind (i64 u64 u8)
open Go.Sx
noncomputable section
theorem pt_wild (x y : Int) : F113_0 x y = !ptOk x y := by unfold F113_0 ptOk; exact wild_placed _ _
theorem dup_eq (n : Nat) (f : Nat -> List V) (s : ByteArray) : F90_0 n f s = exB n fun k => (sv (hdV (f k))).toList == s.toList := by
 unfold F90_0 F129; rw [idx_geq]; rfl
theorem dupC_eq (n : Nat) (f : Nat -> List V) (s : ByteArray) : F121_0 n f s = exB n fun k => (sv (hdV (f k))).toList == s.toList := by
 unfold F121_0 F149; rw [idx_geq]; rfl
theorem far_eq (n : Nat) (f : Nat -> List V) : F115_0 n f = exB n fun i => !ptOk (jv0 (f i)) (jv1 (f i)) := by
 unfold F115_0 F147; rw [idx_geq]; exact exB_congr fun i _ => pt_wild _ _
theorem road_eq (n0 : Nat) (f0 : FnV) (i : Nat) : c62 n0 (elV tyR f0) i = cR n0 f0 i := by
 unfold c62 cR F63 F70 roadE
 rw [name_eq, dup_eq, far_eq]
 simp only [Int.toNat_natCast, Nat.sub_zero, Nat.zero_add, out_from, Bool.not_not]
 rfl
theorem tree_eq (n2 : Nat) (f2 : FnV) (i : Nat) : c64 n2 (elV tyT f2) i = cT f2 i := by
 show F65_0 (jv0 (f2 i)) (jv1 (f2 i)) (jv2 (f2 i)) (jv3 (f2 i)) (jv4 (f2 i)) = _
 unfold cT F65_0 treeE
 rw [wild_placed]
 show (bif !!ptOk _ _ then _ else _) = _
 generalize ptOk _ _ = p
 generalize jv2 (f2 i) = a
 generalize jv3 (f2 i) = z
 generalize jv4 (f2 i) = w
 cases p
 ·rfl
 ·simp only [Bool.not_true, Bool.not_false, cond_true]
  rw [out_from]
  cases ha : F86_0 a 1 20000
  ·simp only [Bool.not_false, Bool.not_true, cond_true, cond_false]
   by_cases hw : 1 <= w /\ w <= 1000
   ·have e : F86_0 w 1 1000 = false := by unfold F86_0; rw [dqf (by omega), cond_false]; exact dqf (by omega)
    rw [e, wrapI (by omega) (by omega)]
    unfold F86_0
    by_cases hz : z < 0
    ·rw [dqt hz]; rfl
    ·rw [dqf hz]
     by_cases hz2 : w <= z
     ·rw [dqt (show w - 1 < z by omega), dqt hz2]; rfl
     ·rw [dqf (show ¬ w - 1 < z by omega), dqf hz2, dqf (show ¬ 1000 < w by omega)]; rfl
   ·have e : F86_0 w 1 1000 = true := by
     unfold F86_0
     by_cases h1 : w < 1
     ·rw [dqt h1]; rfl
     ·rw [dqf h1, cond_false]; exact dqt (by omega)
    rw [e]
    have : (bif bif decide (z < 0) then true else decide (w <= z) then true else decide (1000 < w)) = true := by
     by_cases hz : z < 0
     ·rw [dqt hz]; rfl
     ·rw [dqf hz, cond_false]
      by_cases h2 : w <= z
      ·rw [dqt h2]; rfl
      ·rw [dqf h2, cond_false]; exact dqt (by omega)
    rw [this]
    cases !F86_0 z 0 (i64.wrap (w - 1)) <;> rfl
  ·rfl
theorem wnd_eq (x0 x1 x2 x3 : Int) : F118_0 x0 x1 x2 x3 = bif bif bif bif bif decide (x0 < 0) then true else decide (x1 <= x0) then true else decide (1000 < x1) then true else decide (x2 < 0) then true else decide (x3 <= x2) then true else decide (1000 < x3) := by
 have key : ∀ a b : Int, ((bif !F86_0 b 1 1000 then F86_0 a 0 (i64.wrap (b - 1)) else true) = true) ↔ (a < 0 ∨ b <= a ∨ 1000 < b) := by
  intro a b
  unfold F86_0
  by_cases h1 : b < 1
  ·rw [dqt h1]; simp; omega
  ·rw [dqf h1]
   by_cases h2 : 1000 < b
   ·rw [dqt h2]; simp; omega
   ·rw [dqf h2, wrapI (by omega) (by omega)]
    simp only [cond_false, Bool.not_false, cond_true, Bool.cond_eq_ite]
    split <;> simp_all <;> omega
 have e1 := key x0 x1
 have e2 := key x2 x3
 have : F118_0 x0 x1 x2 x3 = (bif !(bif !F86_0 x1 1 1000 then F86_0 x0 0 (i64.wrap (x1 - 1)) else true) then (bif !F86_0 x3 1 1000 then F86_0 x2 0 (i64.wrap (x3 - 1)) else true) else true) := by
  unfold F118_0
  cases F86_0 x1 1 1000 <;> cases F86_0 x0 0 (i64.wrap (x1 - 1)) <;> rfl
 rw [this]
 generalize (bif !F86_0 x1 1 1000 then F86_0 x0 0 (i64.wrap (x1 - 1)) else true) = p at e1 ⊢
 generalize (bif !F86_0 x3 1 1000 then F86_0 x2 0 (i64.wrap (x3 - 1)) else true) = q at e2 ⊢
 rw [Bool.eq_iff_iff]
 simp only [Bool.cond_eq_ite]
 cases p <;> cases q <;> simp_all <;> omega
theorem front_eq (n4 : Nat) (f4 : FnV) (i : Nat) : c66 n4 (elV tyF f4) i = cF f4 i := by
 show F67_0 (jv0 (f4 i)) (jv1 (f4 i)) (jv2 (f4 i)) (jv3 (f4 i)) (lenV (hdV (tlV (tlV (tlV (tlV (f4 i))))))) (fun j => views tp4 (atV (hdV (tlV (tlV (tlV (tlV (f4 i)))))) j)) = _
 unfold cF F67_0 F72
 rw [wild_placed]
 have : ∀ n (f : Nat -> List V), F119_0 n f = exB n fun j => badW (f j) := by
  intro n f
  unfold F119_0 F148; rw [idx_geq]
  exact exB_congr fun j _ => by rw [wnd_eq]; rfl
 rw [this]
 rfl
theorem colx (p q r t : Bool) (B : Int) : (bif p then bif !q then bif !r then bif t then 7 else B else 7 else 7 else 7) = (bif bif bif bif !p then true else q then true else r then true else t then 7 else B) := by
 cases p <;> cases q <;> cases r <;> cases t <;> rfl
theorem col_eq (n6 : Nat) (f6 : FnV) (i : Nat) : c68 n6 (elV tyC f6) i = cC n6 f6 i := by
 unfold c68 cC F69_0 F73
 rw [name_eq, dupC_eq, wild_placed]
 simp only [Int.toNat_natCast, Nat.sub_zero, Nat.zero_add]
 unfold colE
 simp only [out_from, Bool.not_not]
 rw [colx]
 rfl
theorem first_congr {n : Nat} {c d : Nat -> Int} (h : ∀ i, c i = d i) : firstI n c = firstI n d /\ firstE n c = firstE n d := by
 have : c = d := funext h
 rw [this]; exact ⟨rfl, rfl⟩
theorem check_eq (n0 : Nat) (f0 : FnV) (n2 : Nat) (f2 : FnV) (n4 : Nat) (f4 : FnV) (n6 : Nat) (f6 : FnV) :
 (F23_0 n0 f0 n2 f2 n4 f4 n6 f6, F23_1 n0 f0 n2 f2 n4 f4 n6 f6, F23_2 n0 f0 n2 f2 n4 f4 n6 f6) = F24 n0 f0 n2 f2 n4 f4 n6 f6 := by
 unfold F23_0 F23_1 F23_2 F24 long z1 z2 z3 r24 F62_0 F62_1 F64_0 F64_1 F66_0 F66_1 F68_0 F68_1
 rw [(first_congr (road_eq n0 f0)).1, (first_congr (road_eq n0 f0)).2, (first_congr (tree_eq n2 f2)).1, (first_congr (tree_eq n2 f2)).2, (first_congr (front_eq n4 f4)).1, (first_congr (front_eq n4 f4)).2, (first_congr (col_eq n6 f6)).1, (first_congr (col_eq n6 f6)).2]
 cases (bif bif bif decide (8 < (n0 : Int)) then true else decide (12 < (n2 : Int)) then true else decide (8 < (n4 : Int)) then true else decide (24 < (n6 : Int)))
 ·simp only [cond_false]
  cases h1 : firstE n0 (cR n0 f0) != 0
  ·simp only [cond_false]
   cases h2 : firstE n2 (cT f2) != 0
   ·simp only [cond_false]
    cases h3 : firstE n4 (cF f4) != 0
    ·simp only [cond_false]
     cases h4 : firstE n6 (cC n6 f6) != 0
     ·rfl
     ·rfl
    ·rfl
   ·rfl
  ·rfl
 ·rfl
end
noncomputable section
theorem elV2 (ts : List Ty) (f : Nat -> List V) : elV ts (elV ts f) = elV ts f := by
 funext i; exact views_idem ts _
theorem firstE_zero {n : Nat} {c : Nat -> Int} (h : firstE n c = 0) : ∀ i, i < n -> c i = 0 := by
 unfold firstE at h
 rcases idx_ex (n := n) (p := fun i => c i != 0) with ⟨_, h2⟩ | ⟨j, h1, h2, h3, _⟩
 ·intro i hi
  have := h2 i hi
  simpa using this
 ·rw [h2] at h
  have : ((j : Int) == -1) = false := by rw [beq_eq_false_iff_ne]; omega
  rw [this, cond_false, Int.toNat_natCast] at h
  rw [h] at h3; cases h3
section
variable {n0 : Nat} {f0 : Nat -> List V} {n2 : Nat} {f2 : Nat -> List V} {n4 : Nat} {f4 : Nat -> List V} {n6 : Nat} {f6 : Nat -> List V} {i j m l : Int}
structure Valid (n0 : Nat) (f0 : FnV) (n2 : Nat) (f2 : FnV) (n4 : Nat) (f4 : FnV) (n6 : Nat) (f6 : FnV) : Prop where
 l0 : n0 <= 8
 l2 : n2 <= 12
 l4 : n4 <= 8
 l6 : n6 <= 24
 rd : ∀ i, i < n0 -> cR n0 f0 i = 0
 tr : ∀ i, i < n2 -> cT f2 i = 0
 fr : ∀ i, i < n4 -> cF f4 i = 0
 cl : ∀ i, i < n6 -> cC n6 f6 i = 0
theorem r24_zero {n : Nat} {c : Nat -> Int} {k : Int} {z : Int × Int × Int} (h : (r24 n c k z).2.2 = 0) : (∀ i, i < n -> c i = 0) /\ z.2.2 = 0 := by
 unfold r24 at h
 cases hb : firstE n c != 0 with
 | true => rw [hb] at h; simp only [cond_true] at h; rw [h] at hb; cases hb
 | false =>
   rw [hb] at h
   exact ⟨firstE_zero (by simpa using hb), h⟩
theorem valid (h : F24_2 n0 f0 n2 f2 n4 f4 n6 f6 = 0) : Valid n0 f0 n2 f2 n4 f4 n6 f6 := by
 unfold F24_2 F24 at h
 cases hl : long n0 f0 n2 f2 n4 f4 n6 f6 with
 | true => rw [hl] at h; cases h
 | false =>
   rw [hl, cond_false] at h
   obtain ⟨h1, h⟩ := r24_zero h
   unfold z1 at h
   obtain ⟨h2, h⟩ := r24_zero h
   unfold z2 at h
   obtain ⟨h3, h⟩ := r24_zero h
   unfold z3 at h
   obtain ⟨h4, _⟩ := r24_zero h
   unfold long at hl
   simp only [Bool.cond_eq_ite, Bool.ite_eq_false_distrib] at hl
   have : n0 <= 8 /\ n2 <= 12 /\ n4 <= 8 /\ n6 <= 24 := by
    refine ⟨?_, ?_, ?_, ?_⟩ <;> (apply Classical.byContradiction; intro hn) <;> simp_all <;> omega
   exact ⟨this.1, this.2.1, this.2.2.1, this.2.2.2, h1, h2, h3, h4⟩
def bad1 (i m : Int) : Bool := bif decide (i < 0) then true else decide (m <= i)
def ix1 (e i m : Int) : Int := bif e == 0 then (bif bad1 i m then 4 else 0) else e
theorem F23_24 : F23_2 n0 f0 n2 f2 n4 f4 n6 f6 = F24_2 n0 f0 n2 f2 n4 f4 n6 f6 := congrArg (fun t => t.2.2) (check_eq n0 f0 n2 f2 n4 f4 n6 f6)
theorem out_bad {i : Int} {m : Nat} (hm : m <= 9223372036854775807) : F86_0 i 0 (i64.wrap ((m : Int) - 1)) = bad1 i m := by
 unfold F86_0 bad1
 rw [wrapI (by omega) (by omega)]
 by_cases h : i < 0
 ·rw [dqt h]; rfl
 ·rw [dqf h, cond_false, cond_false]
  by_cases g : (m : Int) <= i
  ·rw [dqt g]; exact dqt (by omega)
  ·rw [dqf g]; exact dqf (by omega)
theorem chk2 {i : Int} {m : Nat} (hm : F24_2 n0 (elV tyR f0) n2 (elV tyT f2) n4 (elV tyF f4) n6 (elV tyC f6) = 0 -> m <= 9223372036854775807) :
 F44 n0 (elV tyR f0) n2 (elV tyT f2) n4 (elV tyF f4) n6 (elV tyC f6) 2 (elV tp1 (secF [vi i, vi m] 0 1)) = ix1 (F24_2 n0 (elV tyR f0) n2 (elV tyT f2) n4 (elV tyF f4) n6 (elV tyC f6)) i m := by
 unfold F44 outs ix1
 simp only [elV2, F23_24]
 cases he : F24_2 n0 (elV tyR f0) n2 (elV tyT f2) n4 (elV tyF f4) n6 (elV tyC f6) == 0 with
 | false => rfl
 | true =>
   rw [cond_true, cond_true]
   have := hm (eq_of_beq he)
   rw [← out_bad this]
   show (bif !(true && !F86_0 i 0 (i64.wrap ((m : Int) - 1))) then _ else _) = _
   rw [Bool.true_and, Bool.not_not]
end
end
noncomputable section
theorem ediv_q {n d q r : Int} (hd : 0 < d) (h : n = d * q + r) (h1 : 0 <= r) (h2 : r < d) : n / d = q := by
 rw [h, Int.add_comm, Int.add_mul_ediv_left _ _ (by omega), Int.ediv_eq_zero_of_lt h1 h2]; omega
theorem ediv_bd {n d B : Int} (hd : 0 < d) (h1 : -B <= n) (h2 : n <= B) : -B <= n / d /\ n / d <= B := by
 constructor
 ·have : -B <= n / d ↔ -B * d <= n := Int.le_ediv_iff_mul_le hd
  rw [this]
  by_cases hB : 0 <= B
  ·have : B * 1 <= B * d := iml (by omega) hB
   have e : -B * d = -(B * d) := Int.neg_mul _ _
   omega
  ·omega
 ·have hB : 0 <= B := by omega
  have : n / d < B + 1 ↔ n < (B + 1) * d := Int.ediv_lt_iff_lt_mul hd
  have h3 : (B + 1) * 1 <= (B + 1) * d := iml (by omega) (by omega)
  have := this.2 (by omega)
  omega
theorem down_p {n d : Int} (hd : 0 < d) (hd2 : d <= 1000000000) (h1 : -1000000000000 <= n) (h2 : n <= 1000000000000) : F81_0 n d = n / d := by
 have hb := ediv_bd hd h1 h2
 unfold F81_0
 by_cases hn : n < 0
 ·rw [dqt hn, cond_true, wrapI (x := d - 1) (by omega) (by omega), wrapI (x := d - 1 - n) (by omega) (by omega), Int.tdiv_eq_ediv_of_nonneg (by omega)]
  have e := Int.mul_ediv_add_emod n d
  have r1 := Int.emod_nonneg n (by omega : d ≠ 0)
  have r2 := Int.emod_lt_of_pos n hd
  have : (d - 1 - n) / d = -(n / d) := ediv_q (r := d - 1 - n % d) hd (by have : d * -(n / d) = -(d * (n / d)) := Int.mul_neg _ _; omega) (by omega) (by omega)
  rw [this, wrapI (x := -(n / d)) (by omega) (by omega), wrapI (by omega) (by omega)]; omega
 ·rw [dqf hn, cond_false, Int.tdiv_eq_ediv_of_nonneg (by omega), wrapI (by omega) (by omega)]
theorem mulB {x p A B : Int} (h1 : -A <= x) (h2 : x <= A) (h3 : 0 <= p) (h4 : p <= B) : -(A * B) <= x * p /\ x * p <= A * B := by
 have hA : 0 <= A := by omega
 have a1 : x * p <= A * p := Int.mul_le_mul_of_nonneg_right h2 h3
 have a2 : A * p <= A * B := iml h4 hA
 have a3 : -A * p <= x * p := Int.mul_le_mul_of_nonneg_right h1 h3
 rw [Int.neg_mul] at a3
 exact ⟨by omega, by omega⟩
theorem from_in {a l h : Int} (hf : F71_0 a l h = true) : l <= a /\ a <= h := by
 unfold F71_0 at hf
 by_cases h1 : l <= a
 ·rw [dqt h1, cond_true] at hf; exact ⟨h1, of_decide_eq_true hf⟩
 ·rw [dqf h1] at hf; cases hf
end
noncomputable section
section
variable {ax ay bx b2 px py r : Int}
theorem sd_p (h1 : sm ax) (h2 : sm ay) (h3 : sm bx) (h4 : sm b2) (h5 : sm px) (h6 : sm py) : F127_0 (F84_0 bx ax) (F84_1 b2 ay) (F84_0 px ax) (F84_1 py ay) = sd ax ay bx b2 px py /\ -4611686018427387904 <= sd ax ay bx b2 px py /\ sd ax ay bx b2 px py <= 4611686018427387904 := by
 unfold sm at *
 unfold sd F127_0 F84_0 F84_1
 rw [wrapI (x := bx - ax) (by omega) (by omega), wrapI (x := b2 - ay) (by omega) (by omega), wrapI (x := px - ax) (by omega) (by omega), wrapI (x := py - ay) (by omega) (by omega)]
 have c1 := mulS (x := bx - ax) (y := py - ay) (A := 1073741824) (B := 1073741824) (by omega) (by omega) (by omega) (by omega)
 have c2 := mulS (x := b2 - ay) (y := px - ax) (A := 1073741824) (B := 1073741824) (by omega) (by omega) (by omega) (by omega)
 rw [wrapI (x := (bx - ax) * (py - ay)) (by omega) (by omega), wrapI (x := (b2 - ay) * (px - ax)) (by omega) (by omega), wrapI (by omega) (by omega)]
 exact ⟨rfl, by omega, by omega⟩
end
end
noncomputable section
theorem ix1_zero {e i m : Int} (h : ix1 e i m = 0) : e = 0 /\ 0 <= i /\ i < m := by
 unfold ix1 at h
 cases he : e == 0 with
 | false => rw [he, cond_false] at h; rw [h] at he; cases he
 | true =>
   rw [he, cond_true] at h
   refine ⟨eq_of_beq he, ?_⟩
   unfold bad1 at h
   by_cases h1 : i < 0
   ·rw [dqt h1] at h; cases h
   ·rw [dqf h1, cond_false] at h
    by_cases h2 : m <= i
    ·rw [dqt h2] at h; cases h
    ·omega
end
noncomputable section
def far2 (ax ay X0 Y0 X1 Y1 : Int) : Int := i64.wrap (i64.wrap (max (max 0 (i64.wrap (i64.wrap (2 * X0) - ax))) (i64.wrap (ax - i64.wrap (2 * X1))) * max (max 0 (i64.wrap (i64.wrap (2 * X0) - ax))) (i64.wrap (ax - i64.wrap (2 * X1)))) + i64.wrap (max (max 0 (i64.wrap (i64.wrap (2 * Y0) - ay))) (i64.wrap (ay - i64.wrap (2 * Y1))) * max (max 0 (i64.wrap (i64.wrap (2 * Y0) - ay))) (i64.wrap (ay - i64.wrap (2 * Y1)))))
section
variable {ax ay bx b2 w X0 Y0 X1 Y1 px py : Int}
def pl (x : Int) : Prop := -100000000 <= x /\ x <= 100000000
theorem dbl {x : Int} (h : pl x) : i64.wrap (2 * x) = 2 * x /\ sm (2 * x) := by
 unfold pl at h; unfold sm
 exact ⟨wrapI (by omega) (by omega), by omega⟩
theorem corner_p (h1 : sm ax) (h2 : sm ay) (h3 : sm bx) (h4 : sm b2) (h7 : 0 <= w) (h8 : w <= 1073741824) (hx : pl px) (hy : pl py) : F123_0 ax ay bx b2 w px py = nr ax ay bx b2 (2 * px) (2 * py) w := by
 unfold F123_0
 rw [(dbl hx).1, (dbl hy).1]
 exact near_p h1 h2 h3 h4 (dbl hx).2 (dbl hy).2 h7 h8
theorem far_p (ax ay X0 Y0 X1 Y1 : Int) : F85_0 (max (max (i64.wrap (i64.wrap (2 * X0) - ax)) 0) (i64.wrap (ax - i64.wrap (2 * X1)))) (max (max (i64.wrap (i64.wrap (2 * Y0) - ay)) 0) (i64.wrap (ay - i64.wrap (2 * Y1)))) (max (max (i64.wrap (i64.wrap (2 * X0) - ax)) 0) (i64.wrap (ax - i64.wrap (2 * X1)))) (max (max (i64.wrap (i64.wrap (2 * Y0) - ay)) 0) (i64.wrap (ay - i64.wrap (2 * Y1)))) = far2 ax ay X0 Y0 X1 Y1 := by
 unfold F85_0 far2
 rw [Int.max_comm (i64.wrap (i64.wrap (2 * X0) - ax)) 0, Int.max_comm (i64.wrap (i64.wrap (2 * Y0) - ay)) 0]
theorem thr_p (h1 : sm ax) (h2 : sm ay) (h3 : sm bx) (h4 : sm b2) (g1 : pl X0) (g2 : pl Y0) (g3 : pl X1) (g4 : pl Y1) :
 F145_0 ax ay bx b2 X0 Y0 X1 Y1 = true ↔ (Bx ax ay bx b2 (2 * X0) (2 * Y0) (2 * X1) (2 * Y1) /\ (0 <= sd ax ay bx b2 (2 * X0) (2 * Y0) ∨ 0 <= sd ax ay bx b2 (2 * X1) (2 * Y0) ∨ 0 <= sd ax ay bx b2 (2 * X1) (2 * Y1) ∨ 0 <= sd ax ay bx b2 (2 * X0) (2 * Y1)) /\ (sd ax ay bx b2 (2 * X0) (2 * Y0) <= 0 ∨ sd ax ay bx b2 (2 * X1) (2 * Y0) <= 0 ∨ sd ax ay bx b2 (2 * X1) (2 * Y1) <= 0 ∨ sd ax ay bx b2 (2 * X0) (2 * Y1) <= 0)) := by
 have s : ∀ px py, pl px -> pl py -> F78_0 ax ay bx b2 (F101_0 px 2) (F101_1 py 2) = sd ax ay bx b2 (2 * px) (2 * py) := fun px py hx hy => by
  unfold F78_0 F101_0 F101_1
  rw [(dbl hx).1, (dbl hy).1]
  exact (sd_p h1 h2 h3 h4 (dbl hx).2 (dbl hy).2).1
 unfold F145_0
 rw [s _ _ g1 g2, s _ _ g3 g2, s _ _ g3 g4, s _ _ g1 g4, (dbl g1).1, (dbl g2).1, (dbl g3).1, (dbl g4).1]
 generalize sd ax ay bx b2 (2 * X0) (2 * Y0) = p
 generalize sd ax ay bx b2 (2 * X1) (2 * Y0) = q
 generalize sd ax ay bx b2 (2 * X1) (2 * Y1) = u
 generalize sd ax ay bx b2 (2 * X0) (2 * Y1) = t
 unfold Bx
 have o4 : ∀ a b c d : Bool, (bif bif bif a then true else b then true else c then true else d) = true ↔ (a = true ∨ b = true ∨ c = true ∨ d = true) := by
  intro a b c d; cases a <;> cases b <;> cases c <;> cases d <;> simp
 have e1 := o4 (decide (max ax bx < 2 * X0)) (decide (2 * X1 < min ax bx)) (decide (max ay b2 < 2 * Y0)) (decide (2 * Y1 < min ay b2))
 have e2 := o4 (decide (0 <= p)) (decide (0 <= q)) (decide (0 <= u)) (decide (0 <= t))
 have e3 := o4 (decide (p <= 0)) (decide (q <= 0)) (decide (u <= 0)) (decide (t <= 0))
 simp only [decide_eq_true_eq] at e1 e2 e3
 rw [← e1, ← e2, ← e3]
 generalize (bif bif bif decide (max ax bx < 2 * X0) then true else decide (2 * X1 < min ax bx) then true else decide (max ay b2 < 2 * Y0) then true else decide (2 * Y1 < min ay b2)) = A
 generalize (bif bif bif decide (0 <= p) then true else decide (0 <= q) then true else decide (0 <= u) then true else decide (0 <= t)) = B
 generalize (bif bif bif decide (p <= 0) then true else decide (q <= 0) then true else decide (u <= 0) then true else decide (t <= 0)) = C
 cases A <;> cases B <;> cases C <;> simp
end
end
noncomputable section
theorem pt_in {x y : Int} (h : ptOk x y = true) : (-100000 <= x /\ x <= 100000) /\ (-100000 <= y /\ y <= 100000) := by
 unfold ptOk F51 at h
 exact ⟨from_in (allB_ok h 0 (by omega)), from_in (allB_ok h 1 (by omega))⟩
structure RoadIn (n : Nat) (f : Nat -> List V) (w : Int) : Prop where
 two : 2 <= n
 eight : n <= 8
 pts : ∀ j, j < n -> (-100000 <= jv0 (f j) /\ jv0 (f j) <= 100000) /\ (-100000 <= jv1 (f j) /\ jv1 (f j) <= 100000)
 adj : ∀ j, j + 1 < n -> eqP f (j + 1) j = false
 w1 : 100 <= w
 w2 : w <= 30000
theorem road_in {n0 : Nat} {f0 : Nat -> List V} {i : Nat} (h : cR n0 f0 i = 0) : RoadIn (lenV (hdV (tlV (tlV (f0 i))))) (fun j => views tp2 (atV (hdV (tlV (tlV (f0 i)))) j)) (jv3 (f0 i)) := by
 have h' : F70 n0 (elV tyR f0) (i : Int) = 0 := h
 unfold F70 at h'
 simp only [Int.toNat_natCast] at h'
 cases hn : F122 (sv (hdV (elV tyR f0 i))) with
 | false => rw [hn] at h'; cases h'
 | true =>
   rw [hn, Bool.not_true, cond_false] at h'
   cases hd : exB i (fun k => (sv (hdV (elV tyR f0 k))).toList == (sv (hdV (elV tyR f0 i))).toList) with
   | true => rw [hd] at h'; cases h'
   | false =>
     rw [hd, cond_false] at h'
     have h2 : roadE (jv1 (f0 i)) (lenV (hdV (tlV (tlV (f0 i))))) (fun j => views tp2 (atV (hdV (tlV (tlV (f0 i)))) j)) (jv3 (f0 i)) = 0 := h'
     unfold roadE at h2
     generalize (fun j => views tp2 (atV (hdV (tlV (tlV (f0 i)))) j)) = f at h2 ⊢
     generalize lenV (hdV (tlV (tlV (f0 i)))) = n at h2 ⊢
     generalize jv3 (f0 i) = w at h2 ⊢
     generalize jv1 (f0 i) = k at h2
     cases h3 : F71_0 k 0 3 with
     | false => rw [h3] at h2; cases h2
     | true =>
       rw [h3, Bool.not_true, cond_false] at h2
       by_cases h4 : (n : Int) < 2
       ·rw [dqt h4] at h2; cases h2
       ·rw [dqf h4, cond_false] at h2
        by_cases h5 : 8 < (n : Int)
        ·rw [dqt h5] at h2; cases h2
        ·rw [dqf h5, cond_false] at h2
         cases h6 : exB n (fun i => !ptOk (jv0 (f i)) (jv1 (f i))) with
         | true => rw [h6] at h2; cases h2
         | false =>
           rw [h6, cond_false] at h2
           cases h7 : F71_0 w 100 30000 with
           | false => rw [h7] at h2; cases h2
           | true =>
             rw [h7, Bool.not_true, cond_false] at h2
             cases h8 : adjP n f with
             | true => rw [h8] at h2; cases h2
             | false =>
               have hw := from_in h7
               refine ⟨by omega, by omega, fun j hj => ?_, fun j hj => ?_, hw.1, hw.2⟩
               ·apply pt_in
                cases hp : ptOk (jv0 (f j)) (jv1 (f j)) with
                | true => rfl
                | false => rw [exB_true j hj (by rw [hp]; rfl)] at h6; cases h6
               ·cases hp : eqP f (j + 1) j with
                | false => rfl
                | true =>
                  unfold adjP at h8
                  rw [exB_true (j + 1) hj (by rw [Nat.add_sub_cancel, hp]; simp)] at h8; cases h8
section
variable {n : Nat} {f : Nat -> List V} {w : Int}
theorem w1p {j n : Nat} (h : j < n) (hn : n <= 8) : (i64.wrap ((j : Int) + 1)).toNat = j + 1 := by
 rw [wrapI (by omega) (by omega)]; omega
theorem dpt {x : Int} (h : -100000 <= x /\ x <= 100000) : i64.wrap (2 * x) = 2 * x /\ sm (2 * x) := dbl (by unfold pl; omega)
end
section
variable {n0 : Nat} {f0 : Nat -> List V} {n2 : Nat} {f2 : Nat -> List V} {n4 : Nat} {f4 : Nat -> List V} {n6 : Nat} {f6 : Nat -> List V}
theorem ix_road {x8 : Int} (h : ix1 (F24_2 n0 (elV tyR f0) n2 (elV tyT f2) n4 (elV tyF f4) n6 (elV tyC f6)) x8 n0 = 0) : RoadIn (lenV (hdV (tlV (tlV (f0 x8.toNat))))) (fun j => views tp2 (atV (hdV (tlV (tlV (f0 x8.toNat)))) j)) (jv3 (f0 x8.toNat)) := by
 obtain ⟨h1, h2, h3⟩ := ix1_zero h
 have hv := (valid h1).rd x8.toNat (by omega)
 exact road_in (f0 := f0) (n0 := n0) (by have : cR n0 (elV tyR f0) x8.toNat = cR n0 f0 x8.toNat := by unfold cR; rw [elV2]
                                         rw [← this]; exact hv)
end
end
def mnTo (g : Nat -> Int) : Nat -> Int
 | 0 => g 0
 | k + 1 => min (mnTo g k) (g k)
def mxTo (g : Nat -> Int) : Nat -> Int
 | 0 => g 0
 | k + 1 => max (mxTo g k) (g k)
theorem mnTo_le {g : Nat -> Int} : ∀ {k i : Nat}, i < k -> mnTo g k <= g i
 | k + 1, i, h => by
   simp only [mnTo]
   by_cases e : i = k
   ·subst e; omega
   ·have := mnTo_le (g := g) (k := k) (i := i) (by omega); omega
theorem mxTo_ge {g : Nat -> Int} : ∀ {k i : Nat}, i < k -> g i <= mxTo g k
 | k + 1, i, h => by
   simp only [mxTo]
   by_cases e : i = k
   ·subst e; omega
   ·have := mxTo_ge (g := g) (k := k) (i := i) (by omega); omega
theorem mnTo_in {g : Nat -> Int} {B : Int} {n : Nat} (hg : ∀ i, i < n -> -B <= g i /\ g i <= B) (h0 : 0 < n) : ∀ {k : Nat}, k <= n -> -B <= mnTo g k /\ mnTo g k <= B
 | 0, _ => hg 0 h0
 | k + 1, h => by
   simp only [mnTo]
   have := mnTo_in hg h0 (k := k) (by omega)
   have := hg k (by omega); omega
theorem mxTo_in {g : Nat -> Int} {B : Int} {n : Nat} (hg : ∀ i, i < n -> -B <= g i /\ g i <= B) (h0 : 0 < n) : ∀ {k : Nat}, k <= n -> -B <= mxTo g k /\ mxTo g k <= B
 | 0, _ => hg 0 h0
 | k + 1, h => by
   simp only [mxTo]
   have := mxTo_in hg h0 (k := k) (by omega)
   have := hg k (by omega); omega
def rowF (q : Int -> Int -> Bool) (j : Int) : Nat -> Int -> List (Int × Int)
 | 0, _ => []
 | c + 1, i => bif q i j then (i, j) :: rowF q j c (i + 1) else rowF q j c (i + 1)
def gridF (q : Int -> Int -> Bool) (i0 : Int) (W : Nat) : Nat -> Int -> List (Int × Int)
 | 0, _ => []
 | h + 1, j => rowF q j W i0 ++ gridF q i0 W h (j + 1)
theorem rowF_mem {q : Int -> Int -> Bool} {j : Int} {p : Int × Int} : ∀ {c : Nat} {i : Int}, p ∈ rowF q j c i ↔ p.2 = j /\ i <= p.1 /\ p.1 < i + c /\ q p.1 p.2 = true
 | 0, i => by simp only [rowF, List.not_mem_nil, false_iff]; omega
 | c + 1, i => by
   simp only [rowF]
   cases hq : q i j with
   | true =>
     simp only [cond_true, List.mem_cons, rowF_mem (c := c)]
     constructor
     ·rintro (rfl | ⟨h1, h2, h3, h4⟩)
      ·exact ⟨rfl, by simp, by simp; omega, hq⟩
      ·exact ⟨h1, by omega, by omega, h4⟩
     ·rintro ⟨h1, h2, h3, h4⟩
      by_cases e : p.1 = i
      ·left; cases p; simp_all
      ·right; exact ⟨h1, by omega, by omega, h4⟩
   | false =>
     simp only [cond_false, rowF_mem (c := c)]
     constructor
     ·rintro ⟨h1, h2, h3, h4⟩; exact ⟨h1, by omega, by omega, h4⟩
     ·rintro ⟨h1, h2, h3, h4⟩
      by_cases e : p.1 = i
      ·rw [h1, e, hq] at h4; cases h4
      ·exact ⟨h1, by omega, by omega, h4⟩
theorem gridF_mem {q : Int -> Int -> Bool} {i0 : Int} {W : Nat} {p : Int × Int} : ∀ {h : Nat} {j : Int}, p ∈ gridF q i0 W h j ↔ (j <= p.2 /\ p.2 < j + h) /\ i0 <= p.1 /\ p.1 < i0 + W /\ q p.1 p.2 = true
 | 0, j => by simp only [gridF, List.not_mem_nil, false_iff]; omega
 | h + 1, j => by
   simp only [gridF, List.mem_append, rowF_mem, gridF_mem (h := h)]
   constructor
   ·rintro (⟨h1, h2, h3, h4⟩ | ⟨⟨h1, h2⟩, h3, h4, h5⟩)
    ·exact ⟨⟨by omega, by omega⟩, h2, h3, h4⟩
    ·exact ⟨⟨by omega, by omega⟩, h3, h4, h5⟩
   ·rintro ⟨⟨h1, h2⟩, h3, h4, h5⟩
    by_cases e : p.2 = j
    ·exact .inl ⟨e, h3, h4, h5⟩
    ·exact .inr ⟨⟨by omega, by omega⟩, h3, h4, h5⟩
theorem rowF_len {q : Int -> Int -> Bool} {j : Int} : ∀ (c : Nat) (i : Int), (rowF q j c i).length <= c
 | 0, _ => Nat.le_refl _
 | c + 1, i => by
   simp only [rowF]
   have := rowF_len (q := q) (j := j) c (i + 1)
   cases q i j <;> simp <;> omega
theorem gridF_len {q : Int -> Int -> Bool} {i0 : Int} {W : Nat} : ∀ (h : Nat) (j : Int), (gridF q i0 W h j).length <= h * W
 | 0, _ => by simp [gridF]
 | h + 1, j => by
   simp only [gridF, List.length_append, Nat.succ_mul]
   have := rowF_len (q := q) (j := j) W i0
   have := gridF_len (q := q) (i0 := i0) (W := W) h (j + 1)
   omega
theorem grid_ind {q : Int -> Int -> Bool} {i0 i1 j0 j1 : Int} {W : Nat} {Tot : List (Int × Int)} {P1 : Int -> List (Int × Int) -> Prop} {P2 : Int -> Int -> List (Int × Int) -> Prop} (hW : i0 + W = i1 + 1)
 (row : ∀ j acc, j0 <= j -> j <= j1 -> P2 i0 j acc -> P1 j acc) (last : P1 (j1 + 1) Tot)
 (yes : ∀ i j acc, i0 <= i -> i <= i1 -> j0 <= j -> j <= j1 -> q i j = true -> acc.length + 1 <= Tot.length -> P2 (i + 1) j (acc ++ [(i, j)]) -> P2 i j acc)
 (no : ∀ i j acc, i0 <= i -> i <= i1 -> j0 <= j -> j <= j1 -> q i j = false -> P2 (i + 1) j acc -> P2 i j acc)
 (endR : ∀ j acc, j0 <= j -> j <= j1 -> P1 (j + 1) acc -> P2 (i1 + 1) j acc) :
 ∀ (h : Nat) (j : Int) (acc : List (Int × Int)), j0 <= j -> j + h = j1 + 1 -> acc ++ gridF q i0 W h j = Tot -> P1 j acc
 | 0, j, acc, _, h2, h3 => by
   simp only [gridF, List.append_nil] at h3; subst h3
   rw [show j = j1 + 1 by omega]; exact last
 | h + 1, j, acc, h1, h2, h3 => by
   refine row j acc h1 (by omega) ?_
   have key : ∀ (c : Nat) (i : Int) (acc : List (Int × Int)), i0 <= i -> i + c = i1 + 1 -> acc ++ (rowF q j c i ++ gridF q i0 W h (j + 1)) = Tot -> P2 i j acc := by
    intro c
    induction c with
    | zero =>
      intro i acc _ g2 g3
      simp only [rowF, List.nil_append] at g3
      rw [show i = i1 + 1 by omega]
      exact endR j acc h1 (by omega) (grid_ind hW row last yes no endR h (j + 1) acc (by omega) (by omega) g3)
    | succ c ih =>
      intro i acc g1 g2 g3
      simp only [rowF] at g3
      cases hq : q i j with
      | true =>
        rw [hq, cond_true] at g3
        refine yes i j acc g1 (by omega) h1 (by omega) hq (by rw [← g3]; simp) (ih (i + 1) _ (by omega) (by omega) ?_)
        rw [← g3]; simp
      | false =>
        rw [hq, cond_false] at g3
        exact no i j acc g1 (by omega) h1 (by omega) hq (ih (i + 1) _ (by omega) (by omega) g3)
   exact key W i0 acc (Int.le_refl _) hW h3
abbrev ty4 : List Ty := tp4
def v4 (a b c d : Int) : List V := [V.int .i64 a, V.int .i64 b, V.int .i64 c, V.int .i64 d]
def LR (g : Int -> Int -> List V) (n : Nat) (f : Nat -> List V) (acc : List (Int × Int)) : Prop := n = acc.length /\ ∀ k p, acc[k]? = some p -> views ty4 (f k) = g p.1 p.2
theorem LR.nil (g : Int -> Int -> List V) (f : Nat -> List V) : LR g 0 f [] := ⟨rfl, fun k p h => by simp at h⟩
theorem LR.view {g : Int -> Int -> List V} {n : Nat} {f : Nat -> List V} {acc : List (Int × Int)} (h : LR g n f acc) : LR g n (elV ty4 f) acc := ⟨h.1, fun k p hk => by show views ty4 (views ty4 (f k)) = _; rw [views_idem]; exact h.2 k p hk⟩
theorem LR.snoc {g : Int -> Int -> List V} {n : Nat} {f : Nat -> List V} {acc : List (Int × Int)} {i j : Int} {l : List V} (h : LR g n f acc) (hl : l = g i j) (hg : views ty4 (g i j) = g i j) : LR g (n + 1) (joinF n (elV ty4 f) fun _ => l) (acc ++ [(i, j)]) := by
 refine ⟨by rw [h.1]; simp, fun k p hk => ?_⟩
 unfold joinF
 rw [h.1]
 by_cases hlt : k < acc.length
 ·rw [show Nat.blt k acc.length = true from Nat.ble_eq_true_of_le hlt, cond_true]
  rw [List.getElem?_append_left hlt] at hk
  exact h.view.2 k p hk
 ·have : Nat.blt k acc.length = false := by
   cases hb : Nat.blt k acc.length with
   | false => rfl
   | true => have := Nat.le_of_ble_eq_true hb; omega
  rw [this, cond_false, hl, hg]
  rw [List.getElem?_append_right (by omega)] at hk
  have e0 : k - acc.length = 0 := by
   apply Classical.byContradiction; intro hne
   rw [List.getElem?_eq_none (by simp; omega)] at hk; cases hk
  rw [e0] at hk; cases hk; rfl
def boxF (g : Int -> Int -> List V) (L : List (Int × Int)) : Nat -> List V := fun k => match L[k]? with
 | some p => g p.1 p.2
 | none => []
def patE (e : Int) (bad : Bool) (m : Int) (L : List (Int × Int)) : Int := bif e != 0 then e else bif bad then 7 else bif decide (4000 < m) then 3 else bif decide (400 < L.length) then 3 else 0
def patL (e : Int) (L : List (Int × Int)) : List (Int × Int) := bif e == 0 then L else []
def patR (g : Int -> Int -> List V) (e : Int) (L : List (Int × Int)) : V := .tup [.sl (patL e L).length (elV ty4 (boxF g (patL e L))), .int .i64 e]
theorem patE_len {e : Int} {bad : Bool} {m : Int} {L : List (Int × Int)} : (patL (patE e bad m L) L).length <= 400 := by
 unfold patL patE
 cases he : e != 0 with
 | true =>
   have : (e == 0) = false := by simpa using he
   rw [cond_true, this]; simp
 | false =>
   rw [cond_false]
   cases bad with
   | true => simp
   | false =>
     simp only [cond_false]
     by_cases h1 : 4000 < m
     ·simp [h1]
     ·by_cases h2 : 400 < L.length
      ·simp [h1, h2]
      ·simp [h1, h2]; omega
theorem patR_ok {g : Int -> Int -> List V} {e : Int} {bad : Bool} {m : Int} {L : List (Int × Int)} : okL 4 (patR g (patE e bad m L) L) := okL_tup rfl rfl rfl (by have := patE_len (e := e) (bad := bad) (m := m) (L := L); omega)
theorem patR_err {g : Int -> Int -> List V} {e : Int} {L : List (Int × Int)} {f : Nat -> List V} (h : e ≠ 0) : toA (.tup [.sl 0 f, .int .i64 e]) = toA (patR g e L) := by
 have : (e == 0) = false := by simpa using h
 unfold patR patL
 rw [this]
 exact toA_tup (toA_list rfl fun i hi => by omega) rfl
theorem patR_ok0 {g : Int -> Int -> List V} {L : List (Int × Int)} {n : Nat} {f : Nat -> List V} (h : LR g n f L) (hg : ∀ i j, views ty4 (g i j) = g i j) : toA (.tup [.sl n (elV ty4 f), .int .i64 0]) = toA (patR g 0 L) := by
 unfold patR patL
 refine toA_tup (toA_list h.1 fun k hk => ?_) rfl
 rw [h.1] at hk
 have e : L[k]? = some L[k] := List.getElem?_eq_getElem hk
 show toAs (views ty4 (f k)) = toAs (views ty4 (boxF g L k))
 rw [h.2 k _ e]
 unfold boxF
 rw [e]
 simp only [hg]
end Go.Dx
namespace Go.Dx
open Go.IntKind (i64 u64 u8)
open Go.Sx Go.Proofs
noncomputable section
def ctB26 : CTab := [(22, .con C22), (25, .con C25), (15, .con C15), (55, .con C55), (61, .con C61), (74, .con C74), (108, .con C108), (46, .con C46), (111, .con C111), (56, .con C56), (47, .con C47), (145, .con C145), (140, .con C140), (49, .con C49), (123, .con C123), (50, .con C50), (44, .con C44), (91, .con C91), (24, .con C24), (23, .con C23), (70, .con C70), (62, .con C62), (68, .con C68), (63, .con C63), (69, .con C69), (117, .inl s117 u0), (116, .inl s116 u0), (115, .con C115), (114, .con C114), (73, .con C73), (147, .con C147), (64, .con C64), (66, .con C66), (113, .con C113), (65, .con C65), (67, .con C67), (53, .con C53), (122, .con C122), (72, .con C72), (45, .con C45), (90, .con C90), (119, .con C119), (121, .con C121), (99, .con C99), (129, .con C129), (148, .con C148), (149, .con C149), (112, .con C112), (118, .con C118), (120, .con C120), (51, .con C51), (133, .con C133), (103, .con C103), (100, .con C100), (134, .con C134), (135, .con C135), (78, .con C78), (54, .con C54), (48, .con C48), (102, .con C102), (81, .con C81), (84, .con C84), (85, .con C85), (127, .con C127), (101, .con C101), (86, .con C86), (71, .con C71), (162, .con C162), (146, .con C146), (83, .inl s83 u0), (87, .inl s87 u0)]
theorem tabB26 : TabOk Tryz.prog eqs its ctB26 := .con ok22 (.con ok25 (.con ok15 (.con ok55 (.con ok61 (.con ok74 (.con ok108 (.con ok46 (.con ok111 (.con ok56 (.con ok47 (.con ok145 (.con ok140 (.con ok49 (.con ok123 (.con ok50 (.con ok44 (.con ok91 (.con ok24 (.con ok23 (.con ok70 (.con ok62 (.con ok68 (.con ok63 (.con ok69 (.inl Tryz.func117 (by kernel_rfl) (by kernel_rfl) (by kernel_rfl) (.inl Tryz.func116 (by kernel_rfl) (by kernel_rfl) (by kernel_rfl) (.con ok115 (.con ok114 (.con ok73 (.con ok147 (.con ok64 (.con ok66 (.con ok113 (.con ok65 (.con ok67 (.con ok53 (.con ok122 (.con ok72 (.con ok45 (.con ok90 (.con ok119 (.con ok121 (.con ok99 (.con ok129 (.con ok148 (.con ok149 (.con ok112 (.con ok118 (.con ok120 (.con ok51 (.con ok133 (.con ok103 (.con ok100 (.con ok134 (.con ok135 (.con ok78 (.con ok54 (.con ok48 (.con ok102 (.con ok81 (.con ok84 (.con ok85 (.con ok127 (.con ok101 (.con ok86 (.con ok71 (.con ok162 (.con ok146 (.inl Tryz.func83 (by kernel_rfl) (by kernel_rfl) (by kernel_rfl) (.inl Tryz.func87 (by kernel_rfl) (by kernel_rfl) (by kernel_rfl) (.nil)))))))))))))))))))))))))))))))))))))))))))))))))))))))))))))))))))))))
def u35 : Unr := fun k => bif Nat.beq k 3 || Nat.beq k 5 then 3 else 0
attribute [local irreducible] F44 F50_0 F91_0
inductive S35 where
 | L0 (ia0 ia1 ia2 ia3 ia4 : Int)
 | L1 (ib0 : Int) (nb1 : Nat) (ib2 : Int) (fb3 : Nat -> List V) (ib4 ib5 ib6 ib7 : Int)
 | L2 (ic0 ic1 : Int) (nc2 : Nat) (ic3 : Int) (fc4 : Nat -> List V) (ic5 ic6 ic7 ic8 : Int)
def inv35 (n0 : Nat) (f0 : FnV) (n2 : Nat) (f2 : FnV) (n4 : Nat) (f4 : FnV) (n6 : Nat) (f6 : FnV) (x8 x9 : Int) : S35 -> Env × List O × Option Ex
 | .L0 ia0 ia1 ia2 ia3 ia4 => ([(50, vi ia0), (49, vi (↑(lenV (hdV (tlV (tlV (f0 x8.toNat))))) : Int)), (48, V.sl (lenV (hdV (tlV (tlV (f0 x8.toNat))))) fun i => views tp2 (atV (hdV (tlV (tlV (f0 x8.toNat)))) i)), (11, V.pl 0 0), (10, V.pl 1 0), (9, V.pl 2 0), (2, vi x9)], [O.cells [vi ia1, vi ia2] 72, O.cells [vi ia3, vi ia4] 72, O.cells [V.str (sv (hdV (f0 x8.toNat))), vi (jv1 (f0 x8.toNat)), V.sl (lenV (hdV (tlV (tlV (f0 x8.toNat))))) fun i => views tp2 (atV (hdV (tlV (tlV (f0 x8.toNat)))) i), vi (jv3 (f0 x8.toNat))] 54], none)
 | .L1 ib0 nb1 ib2 fb3 ib4 ib5 ib6 ib7 => ([(17, vi ib0), (16, V.gs 0 nb1), (77, vi (i64.wrap (i64.wrap (0 + 1) + 1))), (50, vi ib2), (49, vi (↑(lenV (hdV (tlV (tlV (f0 x8.toNat))))) : Int)), (48, V.sl (lenV (hdV (tlV (tlV (f0 x8.toNat))))) fun i => views tp2 (atV (hdV (tlV (tlV (f0 x8.toNat)))) i)), (11, V.pl 1 0), (10, V.pl 2 0), (9, V.pl 3 0), (2, vi x9)], [O.gl 4 nb1 (elV tp4 fb3) 29, O.cells [vi ib4, vi ib5] 72, O.cells [vi ib6, vi ib7] 72, O.cells [V.str (sv (hdV (f0 x8.toNat))), vi (jv1 (f0 x8.toNat)), V.sl (lenV (hdV (tlV (tlV (f0 x8.toNat))))) fun i => views tp2 (atV (hdV (tlV (tlV (f0 x8.toNat)))) i), vi (jv3 (f0 x8.toNat))] 54], none)
 | .L2 ic0 ic1 nc2 ic3 fc4 ic5 ic6 ic7 ic8 => ([(18, vi ic0), (17, vi ic1), (16, V.gs 0 nc2), (77, vi (i64.wrap (i64.wrap (0 + 1) + 1))), (50, vi ic3), (49, vi (↑(lenV (hdV (tlV (tlV (f0 x8.toNat))))) : Int)), (48, V.sl (lenV (hdV (tlV (tlV (f0 x8.toNat))))) fun i => views tp2 (atV (hdV (tlV (tlV (f0 x8.toNat)))) i)), (11, V.pl 1 0), (10, V.pl 2 0), (9, V.pl 3 0), (2, vi x9)], [O.gl 4 nc2 (elV tp4 fc4) 29, O.cells [vi ic5, vi ic6] 72, O.cells [vi ic7, vi ic8] 72, O.cells [V.str (sv (hdV (f0 x8.toNat))), vi (jv1 (f0 x8.toNat)), V.sl (lenV (hdV (tlV (tlV (f0 x8.toNat))))) fun i => views tp2 (atV (hdV (tlV (tlV (f0 x8.toNat)))) i), vi (jv3 (f0 x8.toNat))] 54], none)
def id35 : S35 -> JJ
 | .L0 ia0 ia1 ia2 ia3 ia4 => (0, [])
 | .L1 ib0 nb1 ib2 fb3 ib4 ib5 ib6 ib7 => (1, [])
 | .L2 ic0 ic1 nc2 ic3 fc4 ic5 ic6 ic7 ic8 => (2, [])
def rl35 (n0 : Nat) (f0 : FnV) (n2 : Nat) (f2 : FnV) (n4 : Nat) (f4 : FnV) (n6 : Nat) (f6 : FnV) (x8 x9 : Int) : T (Leaf JJ) := runLL JJ 4 29 ctB26 u35 s35 [scV n0 f0 n2 f2 n4 f4 n6 f6, vi x8, vi x9]
def lp35_0 (n0 : Nat) (f0 : FnV) (n2 : Nat) (f2 : FnV) (n4 : Nat) (f4 : FnV) (n6 : Nat) (f6 : FnV) (x8 x9 : Int) (cx : List Cx) : Lp JJ := lpT (atT (rl35 n0 f0 n2 f2 n4 f4 n6 f6 x8 x9) [false, false])
def lp35_1 (n0 : Nat) (f0 : FnV) (n2 : Nat) (f2 : FnV) (n4 : Nat) (f4 : FnV) (n6 : Nat) (f6 : FnV) (x8 x9 : Int) (cx : List Cx) : Lp JJ := lpT (atT (rdP ctB26 u35 (0, []) (lp35_0 n0 f0 n2 f2 n4 f4 n6 f6 x8 x9 []) (inv35 n0 f0 n2 f2 n4 f4 n6 f6 x8 x9 (.L0 (0 : Int) (0 : Int) (0 : Int) (0 : Int) (0 : Int)))) [false, true, true, false, false])
def lp35_2 (n0 : Nat) (f0 : FnV) (n2 : Nat) (f2 : FnV) (n4 : Nat) (f4 : FnV) (n6 : Nat) (f6 : FnV) (x8 x9 : Int) (cx : List Cx) : Lp JJ := lpT (atT (rdP ctB26 u35 (1, []) (lp35_1 n0 f0 n2 f2 n4 f4 n6 f6 x8 x9 []) (inv35 n0 f0 n2 f2 n4 f4 n6 f6 x8 x9 (.L1 (0 : Int) 0 (0 : Int) (fun _ => []) (0 : Int) (0 : Int) (0 : Int) (0 : Int)))) [true])
def lp35 (n0 : Nat) (f0 : FnV) (n2 : Nat) (f2 : FnV) (n4 : Nat) (f4 : FnV) (n6 : Nat) (f6 : FnV) (x8 x9 : Int) : JJ -> Lp JJ
 | (0, cx) => lp35_0 n0 f0 n2 f2 n4 f4 n6 f6 x8 x9 cx
 | (1, cx) => lp35_1 n0 f0 n2 f2 n4 f4 n6 f6 x8 x9 cx
 | (2, cx) => lp35_2 n0 f0 n2 f2 n4 f4 n6 f6 x8 x9 cx
 | (_, cx) => lp35_0 n0 f0 n2 f2 n4 f4 n6 f6 x8 x9 cx
def D35 (n0 : Nat) (f0 : FnV) (n2 : Nat) (f2 : FnV) (n4 : Nat) (f4 : FnV) (n6 : Nat) (f6 : FnV) (x8 x9 : Int) : LD JJ S35 := ⟨id35, lp35 n0 f0 n2 f2 n4 f4 n6 f6 x8 x9, inv35 n0 f0 n2 f2 n4 f4 n6 f6 x8 x9⟩
def st35 (n0 : Nat) (f0 : FnV) (n2 : Nat) (f2 : FnV) (n4 : Nat) (f4 : FnV) (n6 : Nat) (f6 : FnV) (x8 x9 : Int) : S35 -> RT S35
 | .L0 ia0 ia1 ia2 ia3 ia4 => .br (decide (ia0 < (↑(lenV (hdV (tlV (tlV (f0 x8.toNat))))) : Int))) (.ob (decide (0 <= ia0 /\ ia0 < (↑(lenV (hdV (tlV (tlV (f0 x8.toNat))))) : Int))) (.brt (.obt (.obt (.obt (.obt (.obt (.obt (.brt (.obt (.obt (.obt (.obt (.obt (.obt (.brf (.next (iR 0 3 []) (S35.L0 (i64.wrap (ia0 + 1)) (max ia1 (jv0 (atV (hdV (tlV (tlV (f0 x8.toNat)))) ia0.toNat))) (max ia2 (jv1 (atV (hdV (tlV (tlV (f0 x8.toNat)))) ia0.toNat))) (min ia3 (jv0 (atV (hdV (tlV (tlV (f0 x8.toNat)))) ia0.toNat))) (min ia4 (jv1 (atV (hdV (tlV (tlV (f0 x8.toNat)))) ia0.toNat)))) []))))))))))))))))) (.brt (.obt (.obp (x9 = (0 : Int) -> False) (.obt (.obt (.obp (x9 = (0 : Int) -> False) (.obt (.obt (.obt (.brt (.obt (.obp (x9 = (0 : Int) -> False) (.obt (.obt (.obp (x9 = (0 : Int) -> False) (.obt (.obt (.obt (.brf (.obt (.obt (.obt (.obt (.br (decide (4000 < i64.wrap (i64.wrap (i64.wrap (F81_0 (i64.wrap (ia1 + jv3 (f0 x8.toNat))) x9 - F81_0 (i64.wrap (ia3 - jv3 (f0 x8.toNat))) x9) + 1) * i64.wrap (i64.wrap (F81_0 (i64.wrap (ia2 + jv3 (f0 x8.toNat))) x9 - F81_0 (i64.wrap (ia4 - jv3 (f0 x8.toNat))) x9) + 1)))) (.obt (.ret (V.tup [V.sl 0 fun x => [], vi 3]))) (.obt (.enter [some none, some (some 0), some (some 1), some (some 2)] (S35.L1 (F81_0 (i64.wrap (ia4 - jv3 (f0 x8.toNat))) x9) (0) (ia0) (fun i => []) (F81_0 (i64.wrap (ia1 + jv3 (f0 x8.toNat))) x9) (F81_0 (i64.wrap (ia2 + jv3 (f0 x8.toNat))) x9) (F81_0 (i64.wrap (ia3 - jv3 (f0 x8.toNat))) x9) (F81_0 (i64.wrap (ia4 - jv3 (f0 x8.toNat))) x9)) []))))))))))))))))))))))))))
 | .L1 ib0 nb1 ib2 fb3 ib4 ib5 ib6 ib7 => .obt (.br (decide (ib0 <= ib5)) (.obt (.enter (iR 0 4 []) (S35.L2 (ib6) (ib0) (nb1) (ib2) (elV tp4 fb3) (ib4) (ib5) (ib6) (ib7)) [⟨0, tp4, nb1, elV tp4 fb3, vf_view rfl _ _⟩])) (.br (decide (400 < (↑nb1 : Int))) (.obt (.ret (V.tup [V.sl 0 fun x => [], vi 3]))) (.ob (decide (nb1 <= nb1)) (.ret (V.tup [V.sl nb1 (elV tp4 fb3), vi 0])))))
 | .L2 ic0 ic1 nc2 ic3 fc4 ic5 ic6 ic7 ic8 => .obt (.br (decide (ic0 <= ic5)) (.obc (.obt (.br (F61 (lenV (hdV (tlV (tlV (f0 x8.toNat))))) (fun i => views tp2 (atV (hdV (tlV (tlV (f0 x8.toNat)))) i)) (jv3 (f0 x8.toNat)) (i64.wrap (ic0 * x9)) (i64.wrap (ic1 * x9)) (i64.wrap (i64.wrap (ic0 + 1) * x9)) (i64.wrap (i64.wrap (ic1 + 1) * x9)) == 0) (.next (iR 0 4 []) (S35.L2 (i64.wrap (ic0 + 1)) (ic1) (nc2) (ic3) (elV tp4 fc4) (ic5) (ic6) (ic7) (ic8)) [⟨0, tp4, nc2, elV tp4 fc4, vf_view rfl _ _⟩]) (.obt (.ob (decide (nc2 <= nc2 /\ (nc2 + 1) * 32 <= 140737488355328) && !Nat.beq 32 0) (.br (decide (400 < (↑(nc2 + 1) : Int))) (.brx (decide (400 < (↑(nc2 + 1) : Int))) (.obt (.ret (V.tup [V.sl 0 fun x => [], vi 3])))) (.next [some (some 6), some (some 1), some (some 2), some (some 3)] (S35.L2 (i64.wrap (ic0 + 1)) (ic1) (nc2 + 1) (ic3) (joinF nc2 (elV tp4 fc4) fun x => [vi (i64.wrap (ic0 * x9)), vi (i64.wrap (ic1 * x9)), vi (i64.wrap (i64.wrap (ic0 + 1) * x9)), vi (i64.wrap (i64.wrap (ic1 + 1) * x9))]) (ic5) (ic6) (ic7) (ic8)) [⟨0, tp4, nc2 + 1, joinF nc2 (elV tp4 fc4) fun x => [vi (i64.wrap (ic0 * x9)), vi (i64.wrap (ic1 * x9)), vi (i64.wrap (i64.wrap (ic0 + 1) * x9)), vi (i64.wrap (i64.wrap (ic1 + 1) * x9))], vf_join (vf_view rfl _ _) (vf_const rfl _ rfl)⟩]))))))) (.next (iR 0 4 []) (S35.L1 (i64.wrap (ic1 + 1)) (nc2) (ic3) (elV tp4 fc4) (ic5) (ic6) (ic7) (ic8)) [⟨0, tp4, nc2, elV tp4 fc4, vf_view rfl _ _⟩]))
def m35 (n0 : Nat) (f0 : FnV) (n2 : Nat) (f2 : FnV) (n4 : Nat) (f4 : FnV) (n6 : Nat) (f6 : FnV) (x8 x9 : Int) : RT S35 := .asm (true = true -> n0 <= 9223372036854775807) (.obp (((∀ (i : Nat), i < n0 -> (sv (hdV (f0 i))).size <= (9223372036854775807 : Nat)) /\ ∀ (i : Nat), i < n6 -> (sv (hdV (f6 i))).size <= (9223372036854775807 : Nat)) /\ (0 : Nat) = (0 : Nat) /\ (2 : Nat) <= (100 : Nat)) (.obt (.br (F44 n0 (elV tyR f0) n2 (elV tyT f2) n4 (elV tyF f4) n6 (elV tyC f6) 2 (elV tp1 (secF [vi x8, vi (↑n0 : Int)] 0 1)) != 0) (.obt (.ret (V.tup [V.sl 0 fun x => [], vi (F44 n0 (elV tyR f0) n2 (elV tyT f2) n4 (elV tyF f4) n6 (elV tyC f6) 2 (elV tp1 (secF [vi x8, vi (↑n0 : Int)] 0 1)))]))) (.obc (.obt (.br (F86_0 x9 100 100000) (.obt (.ret (V.tup [V.sl 0 fun x => [], vi 7]))) (.ob (decide (0 <= x8 /\ x8 < (↑n0 : Int))) (.ob (decide ((0 : Int) <= 0 /\ 0 < (↑(lenV (hdV (tlV (tlV (f0 x8.toNat))))) : Int))) (.ob (decide ((0 : Int) <= 0 /\ 0 < (↑(lenV (hdV (tlV (tlV (f0 x8.toNat))))) : Int))) (.asm (true = true -> lenV (hdV (tlV (tlV (f0 x8.toNat)))) <= 9223372036854775807) (.enter [some (some 4), some (some 3), some (some 2)] (S35.L0 (0) (jv0 (atV (hdV (tlV (tlV (f0 x8.toNat)))) 0)) (jv1 (atV (hdV (tlV (tlV (f0 x8.toNat)))) 0)) (jv0 (atV (hdV (tlV (tlV (f0 x8.toNat)))) 0)) (jv1 (atV (hdV (tlV (tlV (f0 x8.toNat)))) 0))) [])))))))))))
theorem run35 (n0 : Nat) (f0 : FnV) (n2 : Nat) (f2 : FnV) (n4 : Nat) (f4 : FnV) (n6 : Nat) (f6 : FnV) (x8 x9 : Int) : Fits ctB26 u35 (D35 n0 f0 n2 f2 n4 f4 n6 f6 x8 x9) (rl35 n0 f0 n2 f2 n4 f4 n6 f6 x8 x9) (m35 n0 f0 n2 f2 n4 f4 n6 f6 x8 x9) (st35 n0 f0 n2 f2 n4 f4 n6 f6 x8 x9) := ⟨⟨by kernel_rfl, by kernel_rfl⟩, fun s => by cases s <;> exact ⟨by kernel_rfl, by kernel_rfl⟩⟩
def npt (f0 : FnV) (i : Int) : Nat := lenV (hdV (tlV (tlV (f0 i.toNat))))
def gxp (f0 : FnV) (i : Int) (j : Nat) : Int := jv0 (atV (hdV (tlV (tlV (f0 i.toNat)))) j)
def gyp (f0 : FnV) (i : Int) (j : Nat) : Int := jv1 (atV (hdV (tlV (tlV (f0 i.toNat)))) j)
def wid (f0 : FnV) (i : Int) : Int := jv3 (f0 i.toNat)
def ptf (f0 : FnV) (i : Int) : Nat -> List V := fun k => views tp2 (atV (hdV (tlV (tlV (f0 i.toNat)))) k)
def cI0 (f0 : FnV) (i s : Int) : Int := (mnTo (gxp f0 i) (npt f0 i) - wid f0 i) / s
def cI1 (f0 : FnV) (i s : Int) : Int := (mxTo (gxp f0 i) (npt f0 i) + wid f0 i) / s
def cJ0 (f0 : FnV) (i s : Int) : Int := (mnTo (gyp f0 i) (npt f0 i) - wid f0 i) / s
def cJ1 (f0 : FnV) (i s : Int) : Int := (mxTo (gyp f0 i) (npt f0 i) + wid f0 i) / s
def patM (f0 : FnV) (i s : Int) : Int := (cI1 f0 i s - cI0 f0 i s + 1) * (cJ1 f0 i s - cJ0 f0 i s + 1)
def patT (q : Int -> Int -> Bool) (f0 : FnV) (i s : Int) : List (Int × Int) := gridF q (cI0 f0 i s) (cI1 f0 i s - cI0 f0 i s + 1).toNat (cJ1 f0 i s - cJ0 f0 i s + 1).toNat (cJ0 f0 i s)
def sqP (s i j : Int) : List V := v4 (i64.wrap (i * s)) (i64.wrap (j * s)) (i64.wrap (i64.wrap (i + 1) * s)) (i64.wrap (i64.wrap (j + 1) * s))
def qP (f0 : FnV) (x s i j : Int) : Bool := F61 (npt f0 x) (ptf f0 x) (wid f0 x) (i64.wrap (i * s)) (i64.wrap (j * s)) (i64.wrap (i64.wrap (i + 1) * s)) (i64.wrap (i64.wrap (j + 1) * s)) != 0
theorem patE_1 {e : Int} {bad : Bool} {m : Int} {L : List (Int × Int)} (h : (e != 0) = true) : patE e bad m L = e := by unfold patE; rw [h]; rfl
theorem patE_2 {e : Int} {bad : Bool} {m : Int} {L : List (Int × Int)} (h : (e != 0) = false) (hb : bad = true) : patE e bad m L = 7 := by unfold patE; rw [h, hb]; rfl
theorem patE_3 {e : Int} {bad : Bool} {m : Int} {L : List (Int × Int)} (h : (e != 0) = false) (hb : bad = false) (hm : 4000 < m) : patE e bad m L = 3 := by unfold patE; rw [h, hb, dqt hm]; rfl
theorem patE_4 {e : Int} {bad : Bool} {m : Int} {L : List (Int × Int)} (h : (e != 0) = false) (hb : bad = false) (hm : ¬ 4000 < m) (hl : 400 < L.length) : patE e bad m L = 3 := by unfold patE; rw [h, hb, dqf hm, dqt hl]; rfl
theorem patE_5 {e : Int} {bad : Bool} {m : Int} {L : List (Int × Int)} (h : (e != 0) = false) (hb : bad = false) (hm : ¬ 4000 < m) (hl : ¬ 400 < L.length) : patE e bad m L = 0 := by unfold patE; rw [h, hb, dqf hm, dqf hl]; rfl
theorem patM_v (f0 : FnV) (i s : Int) : patM (elV tyR f0) i s = patM f0 i s := rfl
theorem qP_v (f0 : FnV) (x s : Int) : qP (elV tyR f0) x s = qP f0 x s := rfl
theorem patT_v (f0 : FnV) (x s : Int) : patT (qP (elV tyR f0) x s) (elV tyR f0) x s = patT (qP f0 x s) f0 x s := rfl
structure GridIn (f0 : FnV) (i s : Int) : Prop where
 s1 : 100 <= s
 s2 : s <= 100000
 n2 : 2 <= npt f0 i
 n8 : npt f0 i <= 8
 mx : -100000 <= mxTo (gxp f0 i) (npt f0 i) /\ mxTo (gxp f0 i) (npt f0 i) <= 100000
 my : -100000 <= mxTo (gyp f0 i) (npt f0 i) /\ mxTo (gyp f0 i) (npt f0 i) <= 100000
 lx : -100000 <= mnTo (gxp f0 i) (npt f0 i) /\ mnTo (gxp f0 i) (npt f0 i) <= 100000
 ly : -100000 <= mnTo (gyp f0 i) (npt f0 i) /\ mnTo (gyp f0 i) (npt f0 i) <= 100000
 w1 : 100 <= wid f0 i
 w2 : wid f0 i <= 30000
 i0 : -130000 <= cI0 f0 i s /\ cI0 f0 i s <= 130000
 i1 : -130000 <= cI1 f0 i s /\ cI1 f0 i s <= 130000
 j0 : -130000 <= cJ0 f0 i s /\ cJ0 f0 i s <= 130000
 j1 : -130000 <= cJ1 f0 i s /\ cJ1 f0 i s <= 130000
 wi : cI0 f0 i s <= cI1 f0 i s
 wj : cJ0 f0 i s <= cJ1 f0 i s
theorem grid_in {f0 : Nat -> List V} {i s : Int} (hr : RoadIn (npt f0 i) (ptf f0 i) (wid f0 i)) (h1 : 100 <= s) (h2 : s <= 100000) : GridIn f0 i s := by
 have hx : ∀ j, j < npt f0 i -> -100000 <= gxp f0 i j /\ gxp f0 i j <= 100000 := fun j hj => (hr.pts j hj).1
 have hy : ∀ j, j < npt f0 i -> -100000 <= gyp f0 i j /\ gyp f0 i j <= 100000 := fun j hj => (hr.pts j hj).2
 have h0 : 0 < npt f0 i := by have := hr.two; omega
 have mx := mxTo_in hx h0 (Nat.le_refl _)
 have my := mxTo_in hy h0 (Nat.le_refl _)
 have lx := mnTo_in hx h0 (Nat.le_refl _)
 have ly := mnTo_in hy h0 (Nat.le_refl _)
 have w1 := hr.w1
 have w2 := hr.w2
 have bx : mnTo (gxp f0 i) (npt f0 i) <= mxTo (gxp f0 i) (npt f0 i) := Int.le_trans (mnTo_le h0) (mxTo_ge h0)
 have byy : mnTo (gyp f0 i) (npt f0 i) <= mxTo (gyp f0 i) (npt f0 i) := Int.le_trans (mnTo_le h0) (mxTo_ge h0)
 exact ⟨h1, h2, hr.two, hr.eight, mx, my, lx, ly, w1, w2, ediv_bd (by omega) (by omega) (by omega), ediv_bd (by omega) (by omega) (by omega), ediv_bd (by omega) (by omega) (by omega), ediv_bd (by omega) (by omega) (by omega),
  Int.ediv_le_ediv (by omega) (by omega), Int.ediv_le_ediv (by omega) (by omega)⟩
theorem patM_w {f0 : Nat -> List V} {i s : Int} (h : GridIn f0 i s) : i64.wrap (i64.wrap (i64.wrap (cI1 f0 i s - cI0 f0 i s) + 1) * i64.wrap (i64.wrap (cJ1 f0 i s - cJ0 f0 i s) + 1)) = patM f0 i s := by
 have := h.i0; have := h.i1; have := h.j0; have := h.j1; have := h.wi; have := h.wj
 rw [wrapI (x := cI1 f0 i s - cI0 f0 i s) (by omega) (by omega), wrapI (x := cJ1 f0 i s - cJ0 f0 i s) (by omega) (by omega), wrapI (x := cI1 f0 i s - cI0 f0 i s + 1) (by omega) (by omega), wrapI (x := cJ1 f0 i s - cJ0 f0 i s + 1) (by omega) (by omega)]
 have b := mulB (x := cI1 f0 i s - cI0 f0 i s + 1) (p := cJ1 f0 i s - cJ0 f0 i s + 1) (A := 300000) (B := 300000) (by omega) (by omega) (by omega) (by omega)
 exact wrapI (by omega) (by omega)
theorem pat_len {f0 : Nat -> List V} {i s : Int} {q : Int -> Int -> Bool} (h : GridIn f0 i s) (hm : ¬ 4000 < patM f0 i s) : (patT q f0 i s).length <= 4000 := by
 have h1 := gridF_len (q := q) (i0 := cI0 f0 i s) (W := (cI1 f0 i s - cI0 f0 i s + 1).toNat) (cJ1 f0 i s - cJ0 f0 i s + 1).toNat (cJ0 f0 i s)
 have := h.wi; have := h.wj
 have e1 : (((cI1 f0 i s - cI0 f0 i s + 1).toNat : Nat) : Int) = cI1 f0 i s - cI0 f0 i s + 1 := by omega
 have e2 : (((cJ1 f0 i s - cJ0 f0 i s + 1).toNat : Nat) : Int) = cJ1 f0 i s - cJ0 f0 i s + 1 := by omega
 have e3 : (((cJ1 f0 i s - cJ0 f0 i s + 1).toNat * (cI1 f0 i s - cI0 f0 i s + 1).toNat : Nat) : Int) = patM f0 i s := by
  unfold patM; rw [Int.natCast_mul, e1, e2, Int.mul_comm]
 unfold patT
 omega
theorem w1i {i : Int} (h1 : -1000000 <= i) (h2 : i <= 1000000) : i64.wrap (i + 1) = i + 1 := wrapI (by omega) (by omega)
theorem grid35 (n0 : Nat) (f0 : FnV) (n2 : Nat) (f2 : FnV) (n4 : Nat) (f4 : FnV) (n6 : Nat) (f6 : FnV) (x8 x9 : Int) (hg : GridIn f0 x8 x9) {e : Int} {bad : Bool} (he : (e != 0) = false) (hb : bad = false) (hm : ¬ 4000 < patM f0 x8 x9) (x j' : Int) :
 Ev (st35 n0 f0 n2 f2 n4 f4 n6 f6 x8 x9) (.L1 (cJ0 f0 x8 x9) 0 x (fun _ => []) (cI1 f0 x8 x9) (cJ1 f0 x8 x9) (cI0 f0 x8 x9) j') (patR (sqP x9) (patE e bad (patM f0 x8 x9) (patT (qP f0 x8 x9) f0 x8 x9)) (patT (qP f0 x8 x9) f0 x8 x9)) := by
 have b0 := hg.i0; have b1 := hg.i1; have b2 := hg.j0; have b3 := hg.j1; have b4 := hg.wi; have b5 := hg.wj
 have hlen := pat_len (q := qP f0 x8 x9) hg hm
 generalize hr : patR (sqP x9) (patE e bad (patM f0 x8 x9) (patT (qP f0 x8 x9) f0 x8 x9)) (patT (qP f0 x8 x9) f0 x8 x9) = r
 refine grid_ind (q := qP f0 x8 x9) (i0 := cI0 f0 x8 x9) (i1 := cI1 f0 x8 x9) (j0 := cJ0 f0 x8 x9) (j1 := cJ1 f0 x8 x9) (W := (cI1 f0 x8 x9 - cI0 f0 x8 x9 + 1).toNat) (Tot := patT (qP f0 x8 x9) f0 x8 x9)
  (P1 := fun j acc => ∀ n f, LR (sqP x9) n f acc -> acc.length <= 400 -> Ev (st35 n0 f0 n2 f2 n4 f4 n6 f6 x8 x9) (.L1 j n x f (cI1 f0 x8 x9) (cJ1 f0 x8 x9) (cI0 f0 x8 x9) j') r)
  (P2 := fun i j acc => ∀ n f, LR (sqP x9) n f acc -> acc.length <= 400 -> Ev (st35 n0 f0 n2 f2 n4 f4 n6 f6 x8 x9) (.L2 i j n x f (cI1 f0 x8 x9) (cJ1 f0 x8 x9) (cI0 f0 x8 x9) j') r)
  (by omega) ?_ ?_ ?_ ?_ ?_ (cJ1 f0 x8 x9 - cJ0 f0 x8 x9 + 1).toNat _ [] (Int.le_refl _) (by omega) rfl _ _ (LR.nil _ _) (by simp)
 ·intro j acc h1 h2 hx n f hL hl
  exact Ev.of rfl (evObt (evBrT (dqt h2) (evObt (evEnter (hx _ _ hL.view hl)))))
 ·intro n f hL hl
  refine Ev.of rfl (evObt (evBrF (dqf (by omega)) ?_))
  have hn := hL.1
  refine evBrF (dqf (by omega)) (evOb (dqt (Nat.le_refl _)) (evRet ?_))
  rw [← hr, patE_5 he hb hm (by omega)]
  exact patR_ok0 hL fun _ _ => rfl
 ·intro i j acc h1 h2 h3 h4 hq hT hx n f hL hl
  have hn := hL.1
  refine Ev.of rfl (evObt (evBrT (dqt h2) (evObc (evObt (evBrF ?_ (evObt (evOb ?_ (evBr (fun h400 => evBrx h400 (evObt (evRet ?_))) (fun h400 => evNext ?_)))))))))
  ·have : (F61 (npt f0 x8) (ptf f0 x8) (wid f0 x8) (i64.wrap (i * x9)) (i64.wrap (j * x9)) (i64.wrap (i64.wrap (i + 1) * x9)) (i64.wrap (i64.wrap (j + 1) * x9)) != 0) = true := hq
   exact tnF this
  ·simp only [Bool.and_eq_true]; exact ⟨dqt ⟨Nat.le_refl _, by omega⟩, rfl⟩
  ·have := of_decide_eq_true h400
   rw [← hr, patE_4 he hb hm (by omega)]
   exact patR_err (by decide)
  ·have := of_decide_eq_false h400
   rw [w1i (by omega) (by omega)]
   exact hx _ _ (hL.snoc (by rw [← w1i (i := i) (by omega) (by omega)]; rfl) rfl) (by simp; omega)
 ·intro i j acc h1 h2 h3 h4 hq hx n f hL hl
  refine Ev.of rfl (evObt (evBrT (dqt h2) (evObc (evObt (evBrT ?_ (evNext ?_))))))
  ·have : (F61 (npt f0 x8) (ptf f0 x8) (wid f0 x8) (i64.wrap (i * x9)) (i64.wrap (j * x9)) (i64.wrap (i64.wrap (i + 1) * x9)) (i64.wrap (i64.wrap (j + 1) * x9)) != 0) = false := hq
   exact tnT this
  ·rw [w1i (by omega) (by omega)]
   exact hx _ _ hL.view hl
 ·intro j acc h1 h2 hx n f hL hl
  refine Ev.of rfl (evObt (evBrF (dqf (by omega)) (evNext ?_)))
  rw [w1i (by omega) (by omega)]
  exact hx _ _ hL.view hl
theorem box35 (n0 : Nat) (f0 : FnV) (n2 : Nat) (f2 : FnV) (n4 : Nat) (f4 : FnV) (n6 : Nat) (f6 : FnV) (x8 x9 : Int) (hg : GridIn f0 x8 x9) (he : (F44 n0 (elV tyR f0) n2 (elV tyT f2) n4 (elV tyF f4) n6 (elV tyC f6) 2 (elV tp1 (secF [vi x8, vi (n0 : Int)] 0 1)) != 0) = false) (hb : F86_0 x9 100 100000 = false) : ∀ k, k <= npt f0 x8 -> Ev (st35 n0 f0 n2 f2 n4 f4 n6 f6 x8 x9) (.L0 (k : Int) (mxTo (gxp f0 x8) k) (mxTo (gyp f0 x8) k) (mnTo (gxp f0 x8) k) (mnTo (gyp f0 x8) k)) (patR (sqP x9) (patE (F44 n0 (elV tyR f0) n2 (elV tyT f2) n4 (elV tyF f4) n6 (elV tyC f6) 2 (elV tp1 (secF [vi x8, vi (n0 : Int)] 0 1))) (F86_0 x9 100 100000) (patM f0 x8 x9) (patT (qP f0 x8 x9) f0 x8 x9)) (patT (qP f0 x8 x9) f0 x8 x9)) := by
 have b0 := hg.mx; have b1 := hg.my; have b2 := hg.lx; have b3 := hg.ly; have b4 := hg.w1; have b5 := hg.w2; have b6 := hg.s1; have b7 := hg.s2
 have hw := patM_w hg
 have hn8 := hg.n8
 have d1 : F81_0 (i64.wrap (mxTo (gxp f0 x8) (npt f0 x8) + wid f0 x8)) x9 = cI1 f0 x8 x9 := by rw [wrapI (by omega) (by omega)]; exact down_p (by omega) (by omega) (by omega) (by omega)
 have d2 : F81_0 (i64.wrap (mnTo (gxp f0 x8) (npt f0 x8) - wid f0 x8)) x9 = cI0 f0 x8 x9 := by rw [wrapI (by omega) (by omega)]; exact down_p (by omega) (by omega) (by omega) (by omega)
 have d3 : F81_0 (i64.wrap (mxTo (gyp f0 x8) (npt f0 x8) + wid f0 x8)) x9 = cJ1 f0 x8 x9 := by rw [wrapI (by omega) (by omega)]; exact down_p (by omega) (by omega) (by omega) (by omega)
 have d4 : F81_0 (i64.wrap (mnTo (gyp f0 x8) (npt f0 x8) - wid f0 x8)) x9 = cJ0 f0 x8 x9 := by rw [wrapI (by omega) (by omega)]; exact down_p (by omega) (by omega) (by omega) (by omega)
 generalize hr : patR (sqP x9) (patE (F44 n0 (elV tyR f0) n2 (elV tyT f2) n4 (elV tyF f4) n6 (elV tyC f6) 2 (elV tp1 (secF [vi x8, vi (n0 : Int)] 0 1))) (F86_0 x9 100 100000) (patM f0 x8 x9) (patT (qP f0 x8 x9) f0 x8 x9)) (patT (qP f0 x8 x9) f0 x8 x9) = r
 refine up_ind fun k hk ih => ?_
 by_cases hlt : k < npt f0 x8
 ·refine Ev.of rfl (evBrT (dqt (by show (k : Int) < (npt f0 x8 : Int); omega)) (evOb (dqt ⟨by omega, by show (k : Int) < (npt f0 x8 : Int); omega⟩) ?_))
  iterate 15 (first | refine evBrt ?_ | refine evBrf ?_ | refine evObt ?_)
  refine evNext ?_
  have := ih hlt
  rw [wrapS hlt (by omega)]
  exact this
 ·have e1 : k = npt f0 x8 := by omega
  subst e1
  refine Ev.of rfl (evBrF (dqf (by show ¬ (npt f0 x8 : Int) < (npt f0 x8 : Int); omega)) ?_)
  have hx9 : x9 = 0 -> False := by omega
  repeat (first | refine evObt ?_ | refine evBrt ?_ | refine evBrf ?_ | refine evObp hx9 ?_)
  show evR _ (.br (decide (4000 < i64.wrap (i64.wrap (i64.wrap (F81_0 (i64.wrap (mxTo (gxp f0 x8) (npt f0 x8) + wid f0 x8)) x9 - F81_0 (i64.wrap (mnTo (gxp f0 x8) (npt f0 x8) - wid f0 x8)) x9) + 1) * i64.wrap (i64.wrap (F81_0 (i64.wrap (mxTo (gyp f0 x8) (npt f0 x8) + wid f0 x8)) x9 - F81_0 (i64.wrap (mnTo (gyp f0 x8) (npt f0 x8) - wid f0 x8)) x9) + 1)))) _ _) _
  refine evBr (fun h => evObt (evRet ?_)) (fun h => evObt (evEnter ?_))
  ·have h := of_decide_eq_true h
   rw [d1, d2, d3, d4, hw] at h
   rw [← hr, patE_3 he hb h]
   exact patR_err (by decide)
  ·have h := of_decide_eq_false h
   rw [d1, d2, d3, d4, hw] at h
   show Ev _ (S35.L1 (F81_0 (i64.wrap (mnTo (gyp f0 x8) (npt f0 x8) - wid f0 x8)) x9) 0 _ _ (F81_0 (i64.wrap (mxTo (gxp f0 x8) (npt f0 x8) + wid f0 x8)) x9) (F81_0 (i64.wrap (mxTo (gyp f0 x8) (npt f0 x8) + wid f0 x8)) x9) (F81_0 (i64.wrap (mnTo (gxp f0 x8) (npt f0 x8) - wid f0 x8)) x9) _) _
   rw [d1, d2, d3, d4, ← hr]
   exact grid35 _ _ _ _ _ _ _ _ _ _ hg he hb h _ _
theorem bad_in {x l h : Int} (hb : F86_0 x l h = false) : l <= x /\ x <= h := by
 unfold F86_0 at hb
 by_cases h1 : x < l
 ·rw [dqt h1] at hb; cases hb
 ·rw [dqf h1, cond_false] at hb
  have := of_decide_eq_false hb; omega
theorem z35 (n0 : Nat) (f0 : FnV) (n2 : Nat) (f2 : FnV) (n4 : Nat) (f4 : FnV) (n6 : Nat) (f6 : FnV) (x8 x9 : Int) (he : (F44 n0 (elV tyR f0) n2 (elV tyT f2) n4 (elV tyF f4) n6 (elV tyC f6) 2 (elV tp1 (secF [vi x8, vi (n0 : Int)] 0 1)) != 0) = false) : (0 <= x8 /\ x8 < n0) /\ RoadIn (npt f0 x8) (ptf f0 x8) (wid f0 x8) := by
 have e0 : F44 n0 (elV tyR f0) n2 (elV tyT f2) n4 (elV tyF f4) n6 (elV tyC f6) 2 (elV tp1 (secF [vi x8, vi (n0 : Int)] 0 1)) = 0 := by simpa using he
 have hc := chk2 (n0 := n0) (f0 := f0) (n2 := n2) (f2 := f2) (n4 := n4) (f4 := f4) (n6 := n6) (f6 := f6) (i := x8) (m := n0) (fun h => by have := (valid h).l0; omega)
 have hz : ix1 (F24_2 n0 (elV tyR f0) n2 (elV tyT f2) n4 (elV tyF f4) n6 (elV tyC f6)) x8 n0 = 0 := hc.symm.trans e0
 exact ⟨(ix1_zero hz).2, ix_road hz⟩
theorem ev35_0 (n0 : Nat) (f0 : FnV) (n2 : Nat) (f2 : FnV) (n4 : Nat) (f4 : FnV) (n6 : Nat) (f6 : FnV) (x8 x9 : Int) (hp : SzOk n0 f0 /\ SzOk n6 f6) : evR (Ev (st35 n0 f0 n2 f2 n4 f4 n6 f6 x8 x9)) (m35 n0 f0 n2 f2 n4 f4 n6 f6 x8 x9) (patR (sqP x9) (patE (F44 n0 (elV tyR f0) n2 (elV tyT f2) n4 (elV tyF f4) n6 (elV tyC f6) 2 (elV tp1 (secF [vi x8, vi (n0 : Int)] 0 1))) (F86_0 x9 100 100000) (patM f0 x8 x9) (patT (qP f0 x8 x9) f0 x8 x9)) (patT (qP f0 x8 x9) f0 x8 x9)) := evAsm1 fun hn => evObp ⟨hp, rfl, by decide⟩ (evObt (evBr (fun h => evObt (evRet (by rw [patE_1 h]; exact patR_err (by simpa using h)))) (fun h => evObc (evObt (evBr (fun h2 => evObt (evRet (by rw [patE_2 h h2]; exact patR_err (by decide)))) (fun h2 => by
 obtain ⟨⟨z1, z2⟩, hr⟩ := z35 n0 f0 n2 f2 n4 f4 n6 f6 x8 x9 h
 have hb := bad_in h2
 have hg := grid_in hr hb.1 hb.2
 have n2' := hg.n2
 have l0 : (0 : Int) < (npt f0 x8 : Int) := by omega
 exact evOb (dqt ⟨z1, z2⟩) (evOb (dqt ⟨Int.le_refl _, l0⟩) (evOb (dqt ⟨Int.le_refl _, l0⟩) (evAsm1 fun _ => evEnter (box35 _ _ _ _ _ _ _ _ _ _ hg h h2 0 (Nat.zero_le _)))))))))))
def F35_e (n0 : Nat) (f0 : FnV) (n2 : Nat) (f2 : FnV) (n4 : Nat) (f4 : FnV) (n6 : Nat) (f6 : FnV) (x8 x9 : Int) : Int := patE (F44 n0 (elV tyR f0) n2 (elV tyT f2) n4 (elV tyF f4) n6 (elV tyC f6) 2 (elV tp1 (secF [vi x8, vi (n0 : Int)] 0 1))) (F86_0 x9 100 100000) (patM f0 x8 x9) (patT (qP f0 x8 x9) f0 x8 x9)
def F35_n (n0 : Nat) (f0 : FnV) (n2 : Nat) (f2 : FnV) (n4 : Nat) (f4 : FnV) (n6 : Nat) (f6 : FnV) (x8 x9 : Int) : Nat := (patL (F35_e n0 f0 n2 f2 n4 f4 n6 f6 x8 x9) (patT (qP f0 x8 x9) f0 x8 x9)).length
def F35_f (n0 : Nat) (f0 : FnV) (n2 : Nat) (f2 : FnV) (n4 : Nat) (f4 : FnV) (n6 : Nat) (f6 : FnV) (x8 x9 : Int) : Nat -> List V := boxF (sqP x9) (patL (F35_e n0 f0 n2 f2 n4 f4 n6 f6 x8 x9) (patT (qP f0 x8 x9) f0 x8 x9))
theorem ev35 (n0 : Nat) (f0 : FnV) (n2 : Nat) (f2 : FnV) (n4 : Nat) (f4 : FnV) (n6 : Nat) (f6 : FnV) (x8 x9 : Int) (hp : SzOk n0 (elV tyR f0) /\ SzOk n6 (elV tyC f6)) : evR (Ev (st35 n0 f0 n2 f2 n4 f4 n6 f6 x8 x9)) (m35 n0 f0 n2 f2 n4 f4 n6 f6 x8 x9) (.tup [.sl (F35_n n0 (elV tyR f0) n2 (elV tyT f2) n4 (elV tyF f4) n6 (elV tyC f6) x8 x9) (elV ty4 (F35_f n0 (elV tyR f0) n2 (elV tyT f2) n4 (elV tyF f4) n6 (elV tyC f6) x8 x9)), .int .i64 (F35_e n0 (elV tyR f0) n2 (elV tyT f2) n4 (elV tyF f4) n6 (elV tyC f6) x8 x9)]) := by
 show evR _ _ (patR (sqP x9) (patE (F44 n0 (elV tyR (elV tyR f0)) n2 (elV tyT (elV tyT f2)) n4 (elV tyF (elV tyF f4)) n6 (elV tyC (elV tyC f6)) 2 (elV tp1 (secF [vi x8, vi (n0 : Int)] 0 1))) (F86_0 x9 100 100000) (patM (elV tyR f0) x8 x9) (patT (qP (elV tyR f0) x8 x9) (elV tyR f0) x8 x9)) (patT (qP (elV tyR f0) x8 x9) (elV tyR f0) x8 x9))
 rw [elV2, elV2, elV2, elV2, patT_v, patM_v]; exact ev35_0 n0 f0 n2 f2 n4 f4 n6 f6 x8 x9 hp
def R35 : List V -> V
 | [.agg [.sl n0 f0, .sl n2 f2, .sl n4 f4, .sl n6 f6], .int _ x8, .int _ x9] => .tup [.sl (F35_n n0 f0 n2 f2 n4 f4 n6 f6 x8 x9) (elV ty4 (F35_f n0 f0 n2 f2 n4 f4 n6 f6 x8 x9)), .int .i64 (F35_e n0 f0 n2 f2 n4 f4 n6 f6 x8 x9)]
 | _ => .any
def P35 : List V -> Prop
 | [.agg [.sl n0 f0, .sl n2 f2, .sl n4 f4, .sl n6 f6], .int _ x8, .int _ x9] => SzOk n0 f0 /\ SzOk n6 f6
 | _ => False
def tys35 : List Ty := [.agg [.sl tyR, .sl tyT, .sl tyF, .sl tyC], .int .i64, .int .i64]
def C35 : PCon := mkC tys35 P35 R35
theorem okl35 : ∀ ds d p r, C35 ds = some (d, p, r) -> d.1 = d.2 -> p -> okL 4 r := mkC_okL fun ds _ => patR_ok
theorem ok35 : (vL 4 29 C35).Ok Tryz.prog 35 := mkEL tabB26 Tryz.func35 (by kernel_rfl) fun ds hp => rfs (run35 ..) (ev35 _ _ _ _ _ _ _ _ _ _ hp)
end
end Go.Dx
namespace Go.Dx
open Go.Sx
section
variable {J : Type}
def normR : V -> Leaf J -> Leaf J
 | .bool b, .res (.kb _) => .res (.kb b)
 | r, _ => .res r
theorem normR_ok (r : V) (a : Leaf J) : topQ r (normR r a) := by
 unfold normR; split <;> rfl
def norm (r : V) : T (Leaf J) -> T (Leaf J)
 | .ret a => .ret (normR r a)
 | .br b x y => match b with
   | true => .br true (norm r x) y
   | false => .br false x (norm r y)
 | .ob _ x => .ob true (norm r x)
 | .obi c d x => match c with
   | true => .obi true true (norm r x)
   | false => .obi false d (norm r x)
 | .obp _ x => .obp True (norm r x)
 | .obq a _ x => .obq a a (norm r x)
 | .fail _ => .ret (.res r)
 | .loop .. => .ret (.res r)
 | .all f => .all fun l => norm r (f l)
 | .und x y => .und (norm r x) (norm r y)
 | .asm p x => .asm p (norm r x)
theorem norm_sat {LP : LPred} (r : V) : ∀ t : T (Leaf J), sat LP (norm r t) (topQ r) := by
 intro t
 induction t with
 | ret a => exact normR_ok r a
 | br b x y hx hy =>
   cases b with
   | true => exact ⟨fun _ => hx, (fun e => by cases e)⟩
   | false => exact ⟨(fun e => by cases e), fun _ => hy⟩
 | ob b x hx => exact ⟨rfl, hx⟩
 | obi c d x hx =>
   cases c with
   | true => exact ⟨fun _ => rfl, hx⟩
   | false => exact ⟨(fun e => by cases e), hx⟩
 | obp p x hx => exact ⟨trivial, hx⟩
 | obq a b x hx => exact ⟨rfl, hx⟩
 | fail n => exact (rfl : toA r = toA r)
 | loop fr b e h g k hk => exact (rfl : toA r = toA r)
 | all f hf => exact fun l => hf l
 | und x y hx hy => exact ⟨hx, hy⟩
 | asm p x hx => exact fun _ => hx
theorem run_norm {ct : CTab} {un : Unr} {w0 : World} {sf : SFun} {ds : List V} {r : V} (h : norm r (runL J ct un sf ds) = runL J ct un sf ds) : sat (LPof w0 (SV ct)) (runL J ct un sf ds) (topQ r) := by
 rw [← h]; exact norm_sat r _
end
def eqL (p : V -> V -> Bool) : List V -> List V -> Bool
 | [], [] => true
 | v :: vs, x :: xs => p v x && eqL p vs xs
 | _, _ => false
def eqD : Nat -> V -> V -> Bool
 | 0, _, _ => false
 | fu + 1, v, x => match v, x with
   | .int k a, .int k' b => decide (k = k') && decide (a = b)
   | .bool a, .bool b => a == b
   | .kb a, .bool b => a == b
   | .str a, .str b => decide (a.data.toList = b.data.toList)
   | .agg xs, .agg ys => eqL (eqD fu) xs ys
   | .sl n f, .sl m g => Nat.beq n m && allB n fun i => eqL (eqD fu) (f i) (g i) && (g i).all V.fc
   | .sq n _ f, .sl m g => Nat.beq n m && allB n fun i => eqL (eqD fu) (f i) (g i) && (g i).all V.fc
   | _, _ => false
theorem eqL_ok {w0 : World} {lh : List LObj} {p : V -> V -> Bool} (hp : ∀ v x a, p v x = true -> vr w0 lh Nu.nil v a -> vr w0 lh Nu.nil x a) : ∀ (vs xs : List V) (qs : List AVal), eqL p vs xs = true -> vrs w0 lh Nu.nil vs qs -> vrs w0 lh Nu.nil xs qs
 | [], [], qs, _, h => h
 | v :: vs, x :: xs, qs, h, h1 => by
   simp only [eqL, Bool.and_eq_true] at h
   simp only [vrs] at h1 ⊢
   obtain ⟨y, ys, rfl, h2, h3⟩ := h1
   exact ⟨y, ys, rfl, hp _ _ _ h.1 h2, eqL_ok hp vs xs ys h.2 h3⟩
 | [], _ :: _, _, h, _ => by simp [eqL] at h
 | _ :: _, [], _, h, _ => by simp [eqL] at h
theorem eqD_ok {w0 : World} {lh : List LObj} : ∀ (fu : Nat) (v x : V) (a : AVal), eqD fu v x = true -> vr w0 lh Nu.nil v a -> vr w0 lh Nu.nil x a
 | 0, v, x, a, h, _ => by simp [eqD] at h
 | fu + 1, v, x, a, h, hv => by
   simp only [eqD] at h
   split at h
   ·simp only [Bool.and_eq_true, decide_eq_true_eq] at h; obtain ⟨rfl, rfl⟩ := h; exact hv
   ·have := eq_of_beq h; subst this; exact hv
   ·have := eq_of_beq h; subst this; simp only [vr] at hv ⊢; exact hv
   ·rename_i s t
    have h0 := of_decide_eq_true h
    have : s = t := by
     cases s with | mk d =>
     cases t with | mk e =>
     have : d = e := Array.toList_inj.1 h0
     rw [this]
    subst this; exact hv
   ·simp only [vr] at hv ⊢
    obtain ⟨qs, rfl, h2⟩ := hv
    exact ⟨qs, rfl, eqL_ok (fun v x a => eqD_ok fu v x a) _ _ _ h h2⟩
   ·simp only [Bool.and_eq_true] at h
    have hn := Nat.eq_of_beq_eq_true h.1
    subst hn
    simp only [vr] at hv ⊢
    obtain ⟨p, c, esz, h1, h2, h3, h4, h5⟩ := hv
    refine ⟨p, c, esz, h1, h2, h3, h4, fun i hi => ?_⟩
    obtain ⟨q, qs, g1, g2, g3, g4⟩ := h5 i hi
    have hh := allB_ok h.2 i hi
    simp only [Bool.and_eq_true] at hh
    exact ⟨q, qs, g1, g2, eqL_ok (fun v x a => eqD_ok fu v x a) _ _ _ hh.1 g3, hh.2⟩
   ·simp only [Bool.and_eq_true] at h
    have hn := Nat.eq_of_beq_eq_true h.1
    subst hn
    simp only [vr] at hv ⊢
    obtain ⟨p, c, esz, h1, h2, h3, h4, h5⟩ := hv
    refine ⟨p, c, esz, h1, h2.1, h3, h4, fun i hi => ?_⟩
    obtain ⟨q, qs, g1, g2, g3, g4⟩ := h5 i hi
    have hh := allB_ok h.2 i hi
    simp only [Bool.and_eq_true] at hh
    exact ⟨q, qs, g1, g2, eqL_ok (fun v x a => eqD_ok fu v x a) _ _ _ hh.1 g3, hh.2⟩
   ·cases h
def atC : List (List V × V) -> PCon
 | [], _ => none
 | (ex, r) :: l, ds => cond (eqL (eqD 8) ds ex) (some (([], []), True, r)) (atC l ds)
theorem atC_ok {P : Program} {f : FuncId} {C : PCon} (hO : (vP C).Ok P f) : ∀ (l : List (List V × V)), (∀ e ∈ l, ∃ d p, C e.1 = some (d, p, e.2) /\ d.1 = d.2 /\ p) -> (vP (atC l)).Ok P f := by
 intro l hl
 refine ⟨fun B m lh w args vs K hrel hargs hsp => ?_, fun _ _ _ _ _ hk ⟨ds, d, p, r, h1, h2, h3, h4, h5⟩ => ⟨ds, d, p, r, h1, h2, h3, h4, hk _ _ h5⟩, fun _ _ _ _ ⟨_, _, _, _, _, _, _, _, h⟩ => h⟩
 refine hO.sound B m lh w args vs K hrel hargs ?_
 obtain ⟨ds, d, p, r', h1, h2, _, h4, h5⟩ := hsp
 induction l with
 | nil => simp [atC] at h2
 | cons e l ih =>
   simp only [atC] at h2
   cases hb : eqL (eqD 8) ds e.1 with
   | true =>
     rw [hb] at h2
     simp only [cond_true, Option.some.injEq, Prod.mk.injEq] at h2
     obtain ⟨_, _, rfl⟩ := h2
     obtain ⟨d', p', e1, e2, e3⟩ := hl e (List.mem_cons_self ..)
     exact ⟨e.1, d', p', _, eqL_ok (fun v x a => eqD_ok 8 v x a) _ _ _ hb h1, e1, ⟨e2, e3⟩, h4, h5⟩
   | false =>
     rw [hb] at h2
     exact ih (fun e he => hl e (List.mem_cons_of_mem _ he)) h2
end Go.Dx
namespace Go.Dx
open Go.Sx
theorem at1 {ts : List Ty} {pre : List V -> Prop} {r : List V -> V} {raw : List V} {res : V} (hp : pre (unqs ts (views ts raw))) (hr : r (unqs ts (views ts raw)) = res) : ∃ d p, mkC ts pre r (views ts raw) = some (d, p, res) /\ d.1 = d.2 /\ p :=
 ⟨_, _, by rw [mkC, hr], fxs_views ts raw [], hp⟩
theorem all2 {α : Type} {a : α} {l : List α} {Q : α -> Prop} (h : Q a) (hl : ∀ e ∈ l, Q e) : ∀ e ∈ a :: l, Q e := fun e he => by
 rcases List.mem_cons.1 he with rfl | he
 ·exact h
 ·exact hl e he
theorem all0 {α : Type} {Q : α -> Prop} : ∀ e ∈ ([] : List α), Q e := fun e he => by cases he
end Go.Dx
namespace Go.Dx
open Go.IntKind (i64 u64 u8)
open Go.Sx Go.Proofs
noncomputable section
def ctB17 : CTab := ctB23
theorem tabB17 : TabOk Tryz.prog eqs its ctB17 := tabB23
def uB : Unr := fun _ => 1000
def szB (n : Nat) (f : Nat -> List V) : Bool := allB n fun i => Nat.ble (sv (hdV (f i))).size 9223372036854775807
theorem szB_ok {n : Nat} {f : Nat -> List V} (h : szB n f = true) : SzOk n f := fun i hi => Nat.le_of_ble_eq_true (allB_ok h i hi)
def exN1 : ByteArray := ⟨#[104, 105, 103, 104]⟩
def exN2 : ByteArray := ⟨#[122, 101, 98, 114, 97]⟩
def exN3 : ByteArray := ⟨#[99, 49]⟩
def exR : Nat -> List V
 | 0 => [.str exN1, vi 0, .sl 3 (fun | 0 => [vi 0, vi 0] | 1 => [vi 10000, vi 0] | _ => [vi 10000, vi 10000]), vi 4000]
 | _ => [.str exN2, vi 3, .sl 2 (fun | 0 => [vi 5000, vi (-2000)] | _ => [vi 5000, vi 2000]), vi 3000]
def exT : Nat -> List V := fun _ => [vi 4000, vi 3000, vi 1000, vi 20, vi 40]
def exF : Nat -> List V := fun _ => [vi 10000, vi 5000, vi 0, vi 5000, .sl 1 fun _ => [vi 250, vi 750, vi 10, vi 30]]
def exK : Nat -> List V := fun _ => [.str exN3, vi 4000, vi 4000, vi 60, vi 0, vi (-1)]
def exS : V := .agg [.sl 2 exR, .sl 1 exT, .sl 1 exF, .sl 1 exK]
def ty44 : List Ty := [.agg [.sl tyR, .sl tyT, .sl tyF, .sl tyC], .sl tp1]
def AT44 : PCon := atC [(views ty44 [exS, .sl 2 (fun | 0 => [vi 0] | _ => [vi 1])], vi 0)]
theorem okA44 : (vP AT44).Ok Tryz.prog 44 := atC_ok ok44 _ (all2 (at1 (ts := ty44) (raw := [exS, .sl 2 (fun | 0 => [vi 0] | _ => [vi 1])]) (⟨⟨szB_ok (by kernel_rfl), szB_ok (by kernel_rfl)⟩, rfl, by decide⟩) (by kernel_rfl)) (all0))
def ty23 : List Ty := [.agg [.sl tyR, .sl tyT, .sl tyF, .sl tyC]]
def AT23 : PCon := atC [(views ty23 [.agg [.sl 0 exR, .sl 1 (fun _ => [vi 0, vi 0, vi 0, vi 0, vi 0]), .sl 0 exF, .sl 0 exK]], .tup [vi 2, vi 0, vi 7])]
theorem okA23 : (vP AT23).Ok Tryz.prog 23 := atC_ok ok23 _ (all2 (at1 (ts := ty23) (raw := [.agg [.sl 0 exR, .sl 1 (fun _ => [vi 0, vi 0, vi 0, vi 0, vi 0]), .sl 0 exF, .sl 0 exK]]) (⟨szB_ok (by kernel_rfl), szB_ok (by kernel_rfl)⟩) (by kernel_rfl)) (all0))
def ty22 : List Ty := [.agg [.sl tyR, .sl tyT, .sl tyF, .sl tyC], .int .i64, .agg tp4]
def AT22 : PCon := atC [(views ty22 [exS, vi 0, .agg [vi 8500, vi (-1500), vi 11500, vi 1500]], .tup [vi 1, vi 0])]
theorem okA22 : (vP AT22).Ok Tryz.prog 22 := atC_ok ok22 _ (all2 (at1 (ts := ty22) (raw := [exS, vi 0, .agg [vi 8500, vi (-1500), vi 11500, vi 1500]]) (⟨szB_ok (by kernel_rfl), szB_ok (by kernel_rfl)⟩) (by kernel_rfl)) (all0))
def ty15 : List Ty := [.agg [.sl tyR, .sl tyT, .sl tyF, .sl tyC], .int .i64, .int .i64, .int .i64]
def AT15 : PCon := atC [(views ty15 [exS, vi 0, vi 4000, vi 5000], .tup [vi (-1), vi 0])]
theorem okA15 : (vP AT15).Ok Tryz.prog 15 := atC_ok ok15 _ (all2 (at1 (ts := ty15) (raw := [exS, vi 0, vi 4000, vi 5000]) (⟨szB_ok (by kernel_rfl), szB_ok (by kernel_rfl)⟩) (by kernel_rfl)) (all0))
end
noncomputable section
def ctB18 : CTab := [(44, .con AT44), (23, .con AT23), (22, .con AT22), (15, .con AT15), (25, .con C25), (55, .con C55), (61, .con C61), (74, .con C74), (108, .con C108), (46, .con C46), (111, .con C111), (56, .con C56), (47, .con C47), (145, .con C145), (140, .con C140), (49, .con C49), (123, .con C123), (50, .con C50), (91, .con C91), (24, .con C24), (70, .con C70), (62, .con C62), (68, .con C68), (63, .con C63), (69, .con C69), (117, .inl s117 u0), (116, .inl s116 u0), (115, .con C115), (114, .con C114), (73, .con C73), (147, .con C147), (64, .con C64), (66, .con C66), (113, .con C113), (65, .con C65), (67, .con C67), (53, .con C53), (122, .con C122), (72, .con C72), (45, .con C45), (90, .con C90), (119, .con C119), (121, .con C121), (99, .con C99), (129, .con C129), (148, .con C148), (149, .con C149), (112, .con C112), (118, .con C118), (120, .con C120), (51, .con C51), (133, .con C133), (103, .con C103), (100, .con C100), (134, .con C134), (135, .con C135), (78, .con C78), (54, .con C54), (48, .con C48), (102, .con C102), (81, .con C81), (84, .con C84), (85, .con C85), (127, .con C127), (101, .con C101), (86, .con C86), (71, .con C71), (162, .con C162), (146, .con C146), (83, .inl s83 u0), (19, .inl s19 uB), (17, .inl s17 uB), (43, .inl s43 uB), (57, .inl s57 uB), (109, .inl s109 uB), (139, .inl s139 uB), (163, .inl s163 uB), (177, .inl s177 uB), (141, .inl s141 uB), (142, .inl s142 uB), (143, .inl s143 uB), (131, .inl s131 uB), (161, .inl s161 uB)]
theorem tabB18 : TabOk Tryz.prog eqs its ctB18 := .con okA44 (.con okA23 (.con okA22 (.con okA15 (.con ok25 (.con ok55 (.con ok61 (.con ok74 (.con ok108 (.con ok46 (.con ok111 (.con ok56 (.con ok47 (.con ok145 (.con ok140 (.con ok49 (.con ok123 (.con ok50 (.con ok91 (.con ok24 (.con ok70 (.con ok62 (.con ok68 (.con ok63 (.con ok69 (.inl Tryz.func117 (by kernel_rfl) (by kernel_rfl) (by kernel_rfl) (.inl Tryz.func116 (by kernel_rfl) (by kernel_rfl) (by kernel_rfl) (.con ok115 (.con ok114 (.con ok73 (.con ok147 (.con ok64 (.con ok66 (.con ok113 (.con ok65 (.con ok67 (.con ok53 (.con ok122 (.con ok72 (.con ok45 (.con ok90 (.con ok119 (.con ok121 (.con ok99 (.con ok129 (.con ok148 (.con ok149 (.con ok112 (.con ok118 (.con ok120 (.con ok51 (.con ok133 (.con ok103 (.con ok100 (.con ok134 (.con ok135 (.con ok78 (.con ok54 (.con ok48 (.con ok102 (.con ok81 (.con ok84 (.con ok85 (.con ok127 (.con ok101 (.con ok86 (.con ok71 (.con ok162 (.con ok146 (.inl Tryz.func83 (by kernel_rfl) (by kernel_rfl) (by kernel_rfl) (.inl Tryz.func19 (by kernel_rfl) (by kernel_rfl) (by kernel_rfl) (.inl Tryz.func17 (by kernel_rfl) (by kernel_rfl) (by kernel_rfl) (.inl Tryz.func43 (by kernel_rfl) (by kernel_rfl) (by kernel_rfl) (.inl Tryz.func57 (by kernel_rfl) (by kernel_rfl) (by kernel_rfl) (.inl Tryz.func109 (by kernel_rfl) (by kernel_rfl) (by kernel_rfl) (.inl Tryz.func139 (by kernel_rfl) (by kernel_rfl) (by kernel_rfl) (.inl Tryz.func163 (by kernel_rfl) (by kernel_rfl) (by kernel_rfl) (.inl Tryz.func177 (by kernel_rfl) (by kernel_rfl) (by kernel_rfl) (.inl Tryz.func141 (by kernel_rfl) (by kernel_rfl) (by kernel_rfl) (.inl Tryz.func142 (by kernel_rfl) (by kernel_rfl) (by kernel_rfl) (.inl Tryz.func143 (by kernel_rfl) (by kernel_rfl) (by kernel_rfl) (.inl Tryz.func131 (by kernel_rfl) (by kernel_rfl) (by kernel_rfl) (.inl Tryz.func161 (by kernel_rfl) (by kernel_rfl) (by kernel_rfl) (.nil)))))))))))))))))))))))))))))))))))))))))))))))))))))))))))))))))))))))))))))))))))
theorem run19 (w0 : World) : sat (LPof w0 (SV ctB18)) (runL (JJ) ctB18 uB s19 []) (topQ (.bool true)) := run_norm (by kernel_rfl)
def C19 : PCon := mkC [] (fun _ => True) fun _ => .bool true
theorem ok19 : (vP C19).Ok Tryz.prog 19 := mkC_ev (J := JJ) (un := uB) tabB18 hE hI Tryz.func19 (by kernel_rfl) (by kernel_rfl) (by kernel_rfl) rfl (fun w0 ds hp => run19 w0)
end
end Go.Dx
namespace Go.Dx
open Go.IntKind (i64 u64 u8)
open Go.Sx
noncomputable section
section
variable {n0 : Nat} {f0 : Nat -> List V} {n2 : Nat} {f2 : Nat -> List V} {n4 : Nat} {f4 : Nat -> List V} {n6 : Nat} {f6 : Nat -> List V} {x8 x9 : Int}
theorem ml {a b s : Int} (h : a <= b) (hs : 0 <= s) : a * s <= b * s := Int.mul_le_mul_of_nonneg_right h hs
theorem sq_in {lo hi s i : Int} (hs : 100 <= s) (hs2 : s <= 100000) (h1 : -130000 <= lo) (h2 : hi <= 130000) (a : lo / s <= i) (b : i <= hi / s) : -230000 <= i * s /\ i * s <= 130000 /\ (i + 1) * s = i * s + s := by
 have e1 := Int.ediv_mul_le hi (b := s) (by omega)
 have e2 := Int.lt_ediv_add_one_mul_self lo (show 0 < s by omega)
 rw [Int.add_mul, Int.one_mul] at e2
 have m1 := ml a (show 0 <= s by omega)
 have m2 := ml b (show 0 <= s by omega)
 exact ⟨by omega, by omega, by rw [Int.add_mul, Int.one_mul]⟩
theorem xs_in (h : GridIn f0 x8 x9) {i : Int} (a : cI0 f0 x8 x9 <= i) (b : i <= cI1 f0 x8 x9) : -230000 <= i * x9 /\ i * x9 <= 130000 /\ (i + 1) * x9 = i * x9 + x9 := by
 have := h.lx; have := h.mx; have := h.w2; have := h.w1
 exact sq_in h.s1 h.s2 (by omega) (by omega) a b
theorem ys_in (h : GridIn f0 x8 x9) {i : Int} (a : cJ0 f0 x8 x9 <= i) (b : i <= cJ1 f0 x8 x9) : -230000 <= i * x9 /\ i * x9 <= 130000 /\ (i + 1) * x9 = i * x9 + x9 := by
 have := h.ly; have := h.my; have := h.w2; have := h.w1
 exact sq_in h.s1 h.s2 (by omega) (by omega) a b
theorem sq_eq (h : GridIn f0 x8 x9) {i j : Int} (a : cI0 f0 x8 x9 <= i) (b : i <= cI1 f0 x8 x9) (c : cJ0 f0 x8 x9 <= j) (d : j <= cJ1 f0 x8 x9) :
 i64.wrap (i * x9) = i * x9 /\ i64.wrap (j * x9) = j * x9 /\ i64.wrap (i64.wrap (i + 1) * x9) = i * x9 + x9 /\ i64.wrap (i64.wrap (j + 1) * x9) = j * x9 + x9 /\ i64.wrap (i * x9 + x9) = i * x9 + x9 /\ i64.wrap (j * x9 + x9) = j * x9 + x9 := by
 obtain ⟨p1, p2, p3⟩ := xs_in h a b
 obtain ⟨r1, r2, r3⟩ := ys_in h c d
 have := h.s1; have := h.s2; have := h.i0; have := h.i1; have := h.j0; have := h.j1
 rw [w1i (i := i) (by omega) (by omega), w1i (i := j) (by omega) (by omega), p3, r3]
 exact ⟨wrapI (by omega) (by omega), wrapI (by omega) (by omega), wrapI (by omega) (by omega), wrapI (by omega) (by omega), wrapI (by omega) (by omega), wrapI (by omega) (by omega)⟩
end
end
end Go.Dx
namespace Go.Dx
theorem sq0 (x : Int) : 0 <= x * x := by
 rcases Int.le_total 0 x with h | h
 ·exact imn h h
 ·have := imn (show 0 <= -x by omega) (show 0 <= -x by omega)
  rwa [Int.neg_mul_neg] at this
theorem le_sq {a b : Int} (hb : 0 <= b) (h : a * a <= b * b) : a <= b := by
 apply Classical.byContradiction; intro hn
 have h1 : b < a := by omega
 have h2 : b * b < a * a := Int.lt_of_le_of_lt (iml (Int.le_of_lt h1) hb) (Int.mul_lt_mul_of_pos_right h1 (by omega))
 omega
theorem cancel {k a b : Int} (hk : 0 < k) (h : k * a <= k * b) : a <= b := Int.le_of_mul_le_mul_left h hk
theorem cancel2 {k a b : Int} (hk : 0 < k) (h : k * k * a <= k * k * b) : a <= b := cancel (Int.mul_pos hk hk) h
def q2 (x y : Int) : Int := x * x + y * y
theorem q2_0 (x y : Int) : 0 <= q2 x y := by unfold q2; have := sq0 x; have := sq0 y; omega
theorem q2_mul (k x y : Int) : q2 (k * x) (k * y) = k * k * q2 x y := by unfold q2; grind
theorem q2_neg (x y : Int) : q2 (-x) y = q2 x y := by unfold q2; grind
theorem q2_comm (x y : Int) : q2 x y = q2 y x := by unfold q2; grind
theorem q2_mono {x y x' y' : Int} (h1 : 0 <= x) (h2 : x <= x') (h3 : 0 <= y) (h4 : y <= y') : q2 x y <= q2 x' y' := by
 unfold q2
 have := Int.mul_le_mul h2 h2 h1 (Int.le_trans h1 h2)
 have := Int.mul_le_mul h4 h4 h3 (Int.le_trans h3 h4)
 omega
theorem dot_le {x y z w A B : Int} (hA : 0 <= A) (hB : 0 <= B) (h1 : q2 x y <= A * A) (h2 : q2 z w <= B * B) : x * z + y * w <= A * B := by
 refine le_sq (imn hA hB) ?_
 have e : q2 x y * q2 z w = (x * z + y * w) * (x * z + y * w) + (x * w - y * z) * (x * w - y * z) := by unfold q2; grind
 have h3 := sq0 (x * w - y * z)
 have h4 : q2 x y * q2 z w <= (A * A) * (B * B) := Int.mul_le_mul h1 h2 (q2_0 z w) (sq0 A)
 have e2 : (A * B) * (A * B) = (A * A) * (B * B) := by grind
 omega
theorem triA {x y z w A B : Int} (hA : 0 <= A) (hB : 0 <= B) (h1 : q2 x y <= A * A) (h2 : q2 z w <= B * B) : q2 (x + z) (y + w) <= (A + B) * (A + B) := by
 have h3 := dot_le hA hB h1 h2
 have e : q2 (x + z) (y + w) = q2 x y + q2 z w + 2 * (x * z + y * w) := by unfold q2; grind
 have e2 : (A + B) * (A + B) = A * A + B * B + 2 * (A * B) := by grind
 omega
def At (ax ay bx b2 px py k r n m : Int) : Prop := 0 <= n /\ n <= m /\ 0 < m /\ q2 (m * px - k * ((m - n) * ax + n * bx)) (m * py - k * ((m - n) * ay + n * b2)) <= (m * k * r) * (m * k * r)
def Nq (ax ay bx b2 px py k r : Int) : Prop := ∃ n m, At ax ay bx b2 px py k r n m
section
variable {ax ay bx b2 px py r n m k : Int}
theorem nr_of (hr : 0 <= r) (h : Nq ax ay bx b2 px py 1 r) : nr ax ay bx b2 px py r = true := by
 obtain ⟨n, m, h1, h2, h3, h4⟩ := h
 rw [Int.mul_one] at h4
 have ex : m * px - 1 * ((m - n) * ax + n * bx) = m * (px - ax) - n * (bx - ax) := by grind
 have ey : m * py - 1 * ((m - n) * ay + n * b2) = m * (py - ay) - n * (b2 - ay) := by grind
 rw [ex, ey] at h4
 unfold nr
 have e1 : px - bx = (px - ax) - (bx - ax) := by omega
 have e2 : py - b2 = (py - ay) - (b2 - ay) := by omega
 rw [e1, e2]
 generalize px - ax = ux at *
 generalize py - ay = uy at *
 generalize bx - ax = dx at *
 generalize b2 - ay = dy at *
 have hmn := imn (Int.le_of_lt h3) h1
 have hR : (m * r) * (m * r) = m * m * (r * r) := by grind
 by_cases c1 : ux * dx + uy * dy <= 0
 ·rw [dqt c1, cond_true]
  refine dqt (cancel2 h3 ?_)
  have e : q2 (m * ux - n * dx) (m * uy - n * dy) = m * m * (ux * ux + uy * uy) + n * n * q2 dx dy - 2 * (m * n * (ux * dx + uy * dy)) := by unfold q2; grind
  have k1 := imn (sq0 n) (q2_0 dx dy)
  have k2 := imn hmn (show 0 <= -(ux * dx + uy * dy) by omega)
  rw [Int.mul_neg] at k2
  omega
 ·rw [dqf c1, cond_false]
  by_cases c2 : dx * dx + dy * dy <= ux * dx + uy * dy
  ·rw [dqt c2, cond_true]
   refine dqt (cancel2 h3 ?_)
   have e : q2 (m * ux - n * dx) (m * uy - n * dy) = m * m * ((ux - dx) * (ux - dx) + (uy - dy) * (uy - dy)) + (m - n) * (m - n) * q2 dx dy + 2 * (m * (m - n) * ((ux * dx + uy * dy) - (dx * dx + dy * dy))) := by unfold q2; grind
   have k1 := imn (sq0 (m - n)) (q2_0 dx dy)
   have k2 := imn (imn (Int.le_of_lt h3) (show 0 <= m - n by omega)) (show 0 <= (ux * dx + uy * dy) - (dx * dx + dy * dy) by omega)
   omega
  ·rw [dqf c2, cond_false]
   refine dqt (cancel2 h3 ?_)
   have e : q2 dx dy * q2 (m * ux - n * dx) (m * uy - n * dy) = m * m * ((dx * uy - dy * ux) * (dx * uy - dy * ux)) + (dx * (m * ux - n * dx) + dy * (m * uy - n * dy)) * (dx * (m * ux - n * dx) + dy * (m * uy - n * dy)) := by unfold q2; grind
   have k1 := sq0 (dx * (m * ux - n * dx) + dy * (m * uy - n * dy))
   have k2 := iml h4 (q2_0 dx dy)
   have e3 : q2 dx dy * (m * r * (m * r)) = m * m * (r * r * (dx * dx + dy * dy)) := by unfold q2; grind
   omega
theorem nr_ex (hr : 0 <= r) (h : nr ax ay bx b2 px py r = true) : Nq ax ay bx b2 px py 1 r := by
 unfold nr at h
 by_cases c1 : (px - ax) * (bx - ax) + (py - ay) * (b2 - ay) <= 0
 ·rw [dqt c1, cond_true] at h
  have h := of_decide_eq_true h
  refine ⟨0, 1, by omega, by omega, by omega, ?_⟩
  have e : q2 (1 * px - 1 * ((1 - 0) * ax + 0 * bx)) (1 * py - 1 * ((1 - 0) * ay + 0 * b2)) = (px - ax) * (px - ax) + (py - ay) * (py - ay) := by unfold q2; grind
  rw [e, Int.one_mul, Int.one_mul]; exact h
 ·rw [dqf c1, cond_false] at h
  by_cases c2 : (bx - ax) * (bx - ax) + (b2 - ay) * (b2 - ay) <= (px - ax) * (bx - ax) + (py - ay) * (b2 - ay)
  ·rw [dqt c2, cond_true] at h
   have h := of_decide_eq_true h
   refine ⟨1, 1, by omega, by omega, by omega, ?_⟩
   have e : q2 (1 * px - 1 * ((1 - 1) * ax + 1 * bx)) (1 * py - 1 * ((1 - 1) * ay + 1 * b2)) = (px - bx) * (px - bx) + (py - b2) * (py - b2) := by unfold q2; grind
   rw [e, Int.one_mul, Int.one_mul]; exact h
  ·rw [dqf c2, cond_false] at h
   have h := of_decide_eq_true h
   refine ⟨(px - ax) * (bx - ax) + (py - ay) * (b2 - ay), (bx - ax) * (bx - ax) + (b2 - ay) * (b2 - ay), by omega, by omega, by omega, ?_⟩
   have ex : ((bx - ax) * (bx - ax) + (b2 - ay) * (b2 - ay)) * px - 1 * (((bx - ax) * (bx - ax) + (b2 - ay) * (b2 - ay) - ((px - ax) * (bx - ax) + (py - ay) * (b2 - ay))) * ax + ((px - ax) * (bx - ax) + (py - ay) * (b2 - ay)) * bx) = ((bx - ax) * (bx - ax) + (b2 - ay) * (b2 - ay)) * (px - ax) - ((px - ax) * (bx - ax) + (py - ay) * (b2 - ay)) * (bx - ax) := by grind
   have ey : ((bx - ax) * (bx - ax) + (b2 - ay) * (b2 - ay)) * py - 1 * (((bx - ax) * (bx - ax) + (b2 - ay) * (b2 - ay) - ((px - ax) * (bx - ax) + (py - ay) * (b2 - ay))) * ay + ((px - ax) * (bx - ax) + (py - ay) * (b2 - ay)) * b2) = ((bx - ax) * (bx - ax) + (b2 - ay) * (b2 - ay)) * (py - ay) - ((px - ax) * (bx - ax) + (py - ay) * (b2 - ay)) * (b2 - ay) := by grind
   rw [ex, ey]
   clear ex ey
   generalize px - ax = ux at *
   generalize py - ay = uy at *
   generalize bx - ax = dx at *
   generalize b2 - ay = dy at *
   have e : q2 ((dx * dx + dy * dy) * ux - (ux * dx + uy * dy) * dx) ((dx * dx + dy * dy) * uy - (ux * dx + uy * dy) * dy) = (dx * dx + dy * dy) * ((dx * uy - dy * ux) * (dx * uy - dy * ux)) := by unfold q2; grind
   rw [e, Int.mul_one]
   have k1 := iml h (show 0 <= dx * dx + dy * dy by omega)
   have e2 : (dx * dx + dy * dy) * r * ((dx * dx + dy * dy) * r) = (dx * dx + dy * dy) * (r * r * (dx * dx + dy * dy)) := by grind
   omega
theorem nr_iff (hr : 0 <= r) : nr ax ay bx b2 px py r = true ↔ Nq ax ay bx b2 px py 1 r := ⟨nr_ex hr, nr_of hr⟩
theorem Nq.cv {qx qy j l : Int} (hr : 0 <= r) (hk : 0 < k) (h1 : Nq ax ay bx b2 px py k r) (h2 : Nq ax ay bx b2 qx qy k r) (hj : 0 <= j) (hl : j <= l) (h0 : 0 < l) : Nq ax ay bx b2 ((l - j) * px + j * qx) ((l - j) * py + j * qy) (k * l) r := by
 obtain ⟨n1, m1, a1, a2, a3, a4⟩ := h1
 obtain ⟨n2, m2, b1, b2', b3, b4⟩ := h2
 have hlj : 0 <= l - j := by omega
 have p1 := Int.mul_pos a3 b3
 refine ⟨(l - j) * n1 * m2 + j * n2 * m1, l * m1 * m2, ?_, ?_, ?_, ?_⟩
 ·have := imn (imn hlj a1) (Int.le_of_lt b3)
  have := imn (imn hj b1) (Int.le_of_lt a3)
  omega
 ·have k1 := imn (imn hlj (show 0 <= m1 - n1 by omega)) (Int.le_of_lt b3)
  have k2 := imn (imn hj (show 0 <= m2 - n2 by omega)) (Int.le_of_lt a3)
  have e : (l - j) * (m1 - n1) * m2 + j * (m2 - n2) * m1 = l * m1 * m2 - ((l - j) * n1 * m2 + j * n2 * m1) := by grind
  omega
 ·exact Int.mul_pos (Int.mul_pos h0 a3) b3
 ·have ex : l * m1 * m2 * ((l - j) * px + j * qx) - k * l * ((l * m1 * m2 - ((l - j) * n1 * m2 + j * n2 * m1)) * ax + ((l - j) * n1 * m2 + j * n2 * m1) * bx) = l * (((l - j) * m2) * (m1 * px - k * ((m1 - n1) * ax + n1 * bx)) + (j * m1) * (m2 * qx - k * ((m2 - n2) * ax + n2 * bx))) := by grind
  have ey : l * m1 * m2 * ((l - j) * py + j * qy) - k * l * ((l * m1 * m2 - ((l - j) * n1 * m2 + j * n2 * m1)) * ay + ((l - j) * n1 * m2 + j * n2 * m1) * b2) = l * (((l - j) * m2) * (m1 * py - k * ((m1 - n1) * ay + n1 * b2)) + (j * m1) * (m2 * qy - k * ((m2 - n2) * ay + n2 * b2))) := by grind
  rw [ex, ey, q2_mul]
  clear ex ey
  generalize m1 * px - k * ((m1 - n1) * ax + n1 * bx) = x1 at *
  generalize m1 * py - k * ((m1 - n1) * ay + n1 * b2) = y1 at *
  generalize m2 * qx - k * ((m2 - n2) * ax + n2 * bx) = x2 at *
  generalize m2 * qy - k * ((m2 - n2) * ay + n2 * b2) = y2 at *
  have w1 := imn hlj (Int.le_of_lt b3)
  have w2 := imn hj (Int.le_of_lt a3)
  have s1 := iml a4 (sq0 ((l - j) * m2))
  have s2 := iml b4 (sq0 (j * m1))
  rw [← q2_mul] at s1 s2
  have z1 := imn (imn (Int.le_of_lt a3) (Int.le_of_lt hk)) hr
  have z2 := imn (imn (Int.le_of_lt b3) (Int.le_of_lt hk)) hr
  have t := triA (A := (l - j) * m2 * (m1 * k * r)) (B := j * m1 * (m2 * k * r)) (imn w1 z1) (imn w2 z2) (by rw [show (l - j) * m2 * (m1 * k * r) * ((l - j) * m2 * (m1 * k * r)) = (l - j) * m2 * ((l - j) * m2) * (m1 * k * r * (m1 * k * r)) by grind]; exact s1) (by rw [show j * m1 * (m2 * k * r) * (j * m1 * (m2 * k * r)) = j * m1 * (j * m1) * (m2 * k * r * (m2 * k * r)) by grind]; exact s2)
  have e : (l - j) * m2 * (m1 * k * r) + j * m1 * (m2 * k * r) = l * (m1 * m2 * k * r) := by grind
  rw [e] at t
  have t := iml t (sq0 l)
  have e2 : l * l * (l * (m1 * m2 * k * r) * (l * (m1 * m2 * k * r))) = l * m1 * m2 * (k * l) * r * (l * m1 * m2 * (k * l) * r) := by grind
  rw [← e2]; exact t
theorem Nq.scale {l : Int} (hl : 0 < l) : Nq ax ay bx b2 px py k r ↔ Nq ax ay bx b2 (l * px) (l * py) (l * k) r := by
 have key : ∀ n m : Int, q2 (m * (l * px) - l * k * ((m - n) * ax + n * bx)) (m * (l * py) - l * k * ((m - n) * ay + n * b2)) = l * l * q2 (m * px - k * ((m - n) * ax + n * bx)) (m * py - k * ((m - n) * ay + n * b2)) := fun n m => by
  rw [← q2_mul]; congr 1 <;> grind
 have key2 : ∀ m : Int, m * (l * k) * r * (m * (l * k) * r) = l * l * (m * k * r * (m * k * r)) := fun m => by grind
 constructor
 ·rintro ⟨n, m, h1, h2, h3, h4⟩
  exact ⟨n, m, h1, h2, h3, by rw [key, key2]; exact iml h4 (sq0 l)⟩
 ·rintro ⟨n, m, h1, h2, h3, h4⟩
  rw [key, key2] at h4
  exact ⟨n, m, h1, h2, h3, cancel2 hl h4⟩
end
section
variable {ax ay bx b2 px py r n m k X0 Y0 X1 Y1 : Int}
def Endn (ex ey X0 Y0 X1 Y1 r : Int) : Prop := q2 (max (max (X0 - ex) 0) (ex - X1)) (max (max (Y0 - ey) 0) (ey - Y1)) <= r * r
def Meet (ax ay bx b2 X0 Y0 X1 Y1 : Int) : Prop := ∃ n m, 0 <= n /\ n <= m /\ 0 < m /\ (m * X0 <= (m - n) * ax + n * bx /\ (m - n) * ax + n * bx <= m * X1) /\ (m * Y0 <= (m - n) * ay + n * b2 /\ (m - n) * ay + n * b2 <= m * Y1)
def Cor (ax ay bx b2 X0 Y0 X1 Y1 r : Int) : Prop := ∃ cx cy, (cx = X0 ∨ cx = X1) /\ (cy = Y0 ∨ cy = Y1) /\ Nq ax ay bx b2 cx cy 1 r
def Res (ax ay bx b2 X0 Y0 X1 Y1 r : Int) : Prop := Cor ax ay bx b2 X0 Y0 X1 Y1 r ∨ Endn ax ay X0 Y0 X1 Y1 r ∨ Endn bx b2 X0 Y0 X1 Y1 r ∨ Meet ax ay bx b2 X0 Y0 X1 Y1
theorem At.sw (h : At ax ay bx b2 px py k r n m) : At bx b2 ax ay px py k r (m - n) m := by
 obtain ⟨h1, h2, h3, h4⟩ := h
 refine ⟨by omega, by omega, h3, ?_⟩
 rw [show (m - (m - n)) * bx + (m - n) * ax = (m - n) * ax + n * bx by grind, show (m - (m - n)) * b2 + (m - n) * ay = (m - n) * ay + n * b2 by grind]
 exact h4
theorem Nq.sw (h : Nq ax ay bx b2 px py k r) : Nq bx b2 ax ay px py k r := let ⟨n, m, h⟩ := h; ⟨m - n, m, h.sw⟩
theorem Nq.ry (h : Nq ax (-ay) bx (-b2) px (-py) k r) : Nq ax ay bx b2 px py k r := by
 obtain ⟨n, m, h1, h2, h3, h4⟩ := h
 refine ⟨n, m, h1, h2, h3, ?_⟩
 rw [show m * -py - k * ((m - n) * -ay + n * -b2) = -(m * py - k * ((m - n) * ay + n * b2)) by grind, q2_comm, q2_neg, q2_comm] at h4
 exact h4
theorem Nq.rx (h : Nq (-ax) ay (-bx) b2 (-px) py k r) : Nq ax ay bx b2 px py k r := by
 obtain ⟨n, m, h1, h2, h3, h4⟩ := h
 refine ⟨n, m, h1, h2, h3, ?_⟩
 rw [show m * -px - k * ((m - n) * -ax + n * -bx) = -(m * px - k * ((m - n) * ax + n * bx)) by grind, q2_neg] at h4
 exact h4
theorem Nq.xy (h : Nq ay ax b2 bx py px k r) : Nq ax ay bx b2 px py k r := by
 obtain ⟨n, m, h1, h2, h3, h4⟩ := h
 exact ⟨n, m, h1, h2, h3, by rw [q2_comm]; exact h4⟩
theorem Meet.sw (h : Meet ax ay bx b2 X0 Y0 X1 Y1) : Meet bx b2 ax ay X0 Y0 X1 Y1 := by
 obtain ⟨n, m, h1, h2, h3, h4, h5⟩ := h
 have e1 : (m - (m - n)) * bx + (m - n) * ax = (m - n) * ax + n * bx := by grind
 have e2 : (m - (m - n)) * b2 + (m - n) * ay = (m - n) * ay + n * b2 := by grind
 exact ⟨m - n, m, by omega, by omega, h3, by rw [e1]; exact h4, by rw [e2]; exact h5⟩
theorem Res.sw (h : Res ax ay bx b2 X0 Y0 X1 Y1 r) : Res bx b2 ax ay X0 Y0 X1 Y1 r := by
 rcases h with ⟨cx, cy, h1, h2, h3⟩ | h | h | h
 ·exact .inl ⟨cx, cy, h1, h2, h3.sw⟩
 ·exact .inr (.inr (.inl h))
 ·exact .inr (.inl h)
 ·exact .inr (.inr (.inr h.sw))
theorem Endn.rx {ex ey : Int} (h : Endn (-ex) ey (-X1) Y0 (-X0) Y1 r) : Endn ex ey X0 Y0 X1 Y1 r := by
 unfold Endn at *
 rwa [show max (max (-X1 - -ex) 0) (-ex - -X0) = max (max (X0 - ex) 0) (ex - X1) by omega] at h
theorem Endn.xy {ex ey : Int} (h : Endn ey ex Y0 X0 Y1 X1 r) : Endn ex ey X0 Y0 X1 Y1 r := by
 unfold Endn at *; rwa [q2_comm]
theorem Res.rx (h : Res (-ax) ay (-bx) b2 (-X1) Y0 (-X0) Y1 r) : Res ax ay bx b2 X0 Y0 X1 Y1 r := by
 rcases h with ⟨cx, cy, h1, h2, h3⟩ | h | h | ⟨n, m, h1, h2, h3, h4, h5⟩
 ·exact .inl ⟨-cx, cy, by omega, h2, Nq.rx (by rw [Int.neg_neg]; exact h3)⟩
 ·exact .inr (.inl h.rx)
 ·exact .inr (.inr (.inl h.rx))
 ·refine .inr (.inr (.inr ⟨n, m, h1, h2, h3, ?_, h5⟩))
  have e : (m - n) * -ax + n * -bx = -((m - n) * ax + n * bx) := by grind
  rw [e, Int.mul_neg, Int.mul_neg] at h4
  omega
theorem Res.xy (h : Res ay ax b2 bx Y0 X0 Y1 X1 r) : Res ax ay bx b2 X0 Y0 X1 Y1 r := by
 rcases h with ⟨cx, cy, h1, h2, h3⟩ | h | h | ⟨n, m, h1, h2, h3, h4, h5⟩
 ·exact .inl ⟨cy, cx, h2, h1, h3.xy⟩
 ·exact .inr (.inl h.xy)
 ·exact .inr (.inr (.inl h.xy))
 ·exact .inr (.inr (.inr ⟨n, m, h1, h2, h3, h5, h4⟩))
theorem up {n1 m1 : Int} (hr : 0 <= r) (h1 : 0 <= n) (h2 : n <= m) (h3 : 0 < m) (g1 : 0 <= n1) (g2 : n1 <= m1) (g3 : 0 < m1) (ho : n * m1 <= n1 * m) (hd : ax <= bx)
 (hy : (m - n) * ay + n * b2 <= m * Y1) (hx : m * X0 - ((m - n) * ax + n * bx) <= m * r) (ky : m1 * Y1 < (m1 - n1) * ay + n1 * b2) (kx : (m1 - n1) * ax + n1 * bx <= m1 * X0) : Nq ax ay bx b2 X0 Y1 1 r := by
 have ey : (m - n) * ay + n * b2 = m * ay + n * (b2 - ay) := by grind
 have ey1 : (m1 - n1) * ay + n1 * b2 = m1 * ay + n1 * (b2 - ay) := by grind
 have ex : (m - n) * ax + n * bx = m * ax + n * (bx - ax) := by grind
 have ex1 : (m1 - n1) * ax + n1 * bx = m1 * ax + n1 * (bx - ax) := by grind
 rw [ey] at hy; rw [ex] at hx; rw [ey1] at ky; rw [ex1] at kx
 have hD : 0 < b2 - ay := by
  apply Classical.byContradiction; intro hn
  have k1 := iml hy (Int.le_of_lt g3)
  have k2 := Int.mul_lt_mul_of_pos_left ky h3
  have k3 := imn (show 0 <= n1 * m - n * m1 by omega) (show 0 <= -(b2 - ay) by omega)
  have e1 : m1 * (m * ay + n * (b2 - ay)) = m1 * m * ay + n * m1 * (b2 - ay) := by grind
  have e2 : m * (m1 * ay + n1 * (b2 - ay)) = m1 * m * ay + n1 * m * (b2 - ay) := by grind
  have e3 : (n1 * m - n * m1) * -(b2 - ay) = n * m1 * (b2 - ay) - n1 * m * (b2 - ay) := by grind
  have e4 : m1 * (m * Y1) = m * (m1 * Y1) := by grind
  omega
 have o1 : 0 <= Y1 - ay := by
  have k1 := imn h1 (Int.le_of_lt hD)
  have : m * ay <= m * Y1 := by omega
  have := cancel h3 this; omega
 have o2 : Y1 - ay <= b2 - ay := by
  have k1 := Int.mul_le_mul_of_nonneg_right g2 (Int.le_of_lt hD)
  have e : m1 * ay + m1 * (b2 - ay) = m1 * b2 := by grind
  have : m1 * Y1 <= m1 * b2 := by omega
  have := cancel g3 this; omega
 have o3 : n * (b2 - ay) <= m * (Y1 - ay) := by rw [Int.mul_sub m]; omega
 have o4 : m1 * (Y1 - ay) <= n1 * (b2 - ay) := by rw [Int.mul_sub m1]; omega
 have e0 : (b2 - ay) * X0 - 1 * (((b2 - ay) - (Y1 - ay)) * ax + (Y1 - ay) * bx) = (b2 - ay) * (X0 - ax) - (Y1 - ay) * (bx - ax) := by grind
 have e00 : (b2 - ay) * Y1 - 1 * (((b2 - ay) - (Y1 - ay)) * ay + (Y1 - ay) * b2) = 0 := by grind
 refine ⟨Y1 - ay, b2 - ay, o1, o2, hD, ?_⟩
 rw [e0, e00, Int.mul_one]
 generalize b2 - ay = D at *
 generalize Y1 - ay = N at *
 have hd' : 0 <= bx - ax := by omega
 have lo : 0 <= D * (X0 - ax) - N * (bx - ax) := by
  refine cancel g3 ?_
  have k1 := Int.mul_le_mul_of_nonneg_right o4 hd'
  have k2 := imn (Int.le_of_lt hD) (show 0 <= m1 * X0 - (m1 * ax + n1 * (bx - ax)) by omega)
  have e1 : m1 * (D * (X0 - ax) - N * (bx - ax)) = D * (m1 * X0 - (m1 * ax + n1 * (bx - ax))) + (n1 * D * (bx - ax) - m1 * N * (bx - ax)) := by grind
  omega
 have hi : D * (X0 - ax) - N * (bx - ax) <= D * r := by
  refine cancel h3 ?_
  have k1 := Int.mul_le_mul_of_nonneg_right o3 hd'
  have k2 := imn (Int.le_of_lt hD) (show 0 <= m * r - (m * X0 - (m * ax + n * (bx - ax))) by omega)
  have e1 : m * (D * r) - m * (D * (X0 - ax) - N * (bx - ax)) = D * (m * r - (m * X0 - (m * ax + n * (bx - ax)))) + (m * N * (bx - ax) - n * D * (bx - ax)) := by grind
  omega
 have := q2_mono (x := D * (X0 - ax) - N * (bx - ax)) (x' := D * r) (y := 0) (y' := 0) lo hi (Int.le_refl _) (Int.le_refl _)
 have e : q2 (D * r) 0 = D * r * (D * r) := by unfold q2; omega
 omega
theorem lf (hr : 0 <= r) (hX : X0 <= X1) (h1 : 0 <= n) (h2 : n <= m) (h3 : 0 < m) (hd : ax <= bx) (hy0 : m * Y0 <= (m - n) * ay + n * b2) (hy1 : (m - n) * ay + n * b2 <= m * Y1)
 (hx0 : (m - n) * ax + n * bx <= m * X0) (hx : m * X0 - ((m - n) * ax + n * bx) <= m * r) : Res ax ay bx b2 X0 Y0 X1 Y1 r := by
 have dn : ∀ n1 m1 : Int, 0 <= n1 -> n1 <= m1 -> 0 < m1 -> n * m1 <= n1 * m -> (m1 - n1) * ay + n1 * b2 < m1 * Y0 -> (m1 - n1) * ax + n1 * bx <= m1 * X0 -> Res ax ay bx b2 X0 Y0 X1 Y1 r := fun n1 m1 g1 g2 g3 g4 g5 g6 => by
  refine .inl ⟨X0, Y0, .inl rfl, .inl rfl, Nq.ry (up (Y1 := -Y0) (ay := -ay) (b2 := -b2) hr h1 h2 h3 g1 g2 g3 g4 hd ?_ hx ?_ g6)⟩
  ·have e : (m - n) * -ay + n * -b2 = -((m - n) * ay + n * b2) := by grind
   rw [e, Int.mul_neg]; omega
  ·have e : (m1 - n1) * -ay + n1 * -b2 = -((m1 - n1) * ay + n1 * b2) := by grind
   rw [e, Int.mul_neg]; omega
 have uu : ∀ n1 m1 : Int, 0 <= n1 -> n1 <= m1 -> 0 < m1 -> n * m1 <= n1 * m -> m1 * Y1 < (m1 - n1) * ay + n1 * b2 -> (m1 - n1) * ax + n1 * bx <= m1 * X0 -> Res ax ay bx b2 X0 Y0 X1 Y1 r := fun n1 m1 g1 g2 g3 g4 g5 g6 =>
  .inl ⟨X0, Y1, .inl rfl, .inr rfl, up hr h1 h2 h3 g1 g2 g3 g4 hd hy1 hx g5 g6⟩
 by_cases c : bx <= X0
 ·have hn : n * 1 <= 1 * m := by omega
  have ex : (1 - 1) * ax + 1 * bx <= 1 * X0 := by omega
  by_cases c1 : b2 < Y0
  ·exact dn 1 1 (by omega) (by omega) (by omega) hn (by omega) ex
  ·by_cases c2 : Y1 < b2
   ·exact uu 1 1 (by omega) (by omega) (by omega) hn (by omega) ex
   ·refine .inr (.inr (.inl ?_))
    have k1 : m * X0 - m * bx <= m * r := by
     have := imn (show 0 <= m - n by omega) (show 0 <= bx - ax by omega)
     have e : m * bx = (m - n) * ax + n * bx + (m - n) * (bx - ax) := by grind
     omega
    have k2 : X0 - bx <= r := cancel h3 (by rw [Int.mul_sub]; exact k1)
    unfold Endn
    rw [show max (max (X0 - bx) 0) (bx - X1) = X0 - bx by omega, show max (max (Y0 - b2) 0) (b2 - Y1) = 0 by omega]
    have := q2_mono (x := X0 - bx) (x' := r) (y := 0) (y' := 0) (by omega) k2 (Int.le_refl _) (Int.le_refl _)
    have e : q2 r 0 = r * r := by unfold q2; omega
    omega
 ·have e0 : (m - n) * ax + n * bx = m * ax + n * (bx - ax) := by grind
  have hA : ax <= X0 := by
   apply Classical.byContradiction; intro hn
   have k1 := imn h1 (show 0 <= bx - ax by omega)
   have k2 := Int.mul_lt_mul_of_pos_left (show X0 < ax by omega) h3
   omega
  have hD : 0 < bx - ax := by omega
  have ho : n * (bx - ax) <= (X0 - ax) * m := by
   have e : (X0 - ax) * m = m * X0 - m * ax := by grind
   omega
  have ex : ((bx - ax) - (X0 - ax)) * ax + (X0 - ax) * bx = (bx - ax) * X0 := by grind
  by_cases c1 : ((bx - ax) - (X0 - ax)) * ay + (X0 - ax) * b2 < (bx - ax) * Y0
  ·exact dn _ _ (by omega) (by omega) hD ho c1 (by rw [ex]; exact Int.le_refl _)
  ·by_cases c2 : (bx - ax) * Y1 < ((bx - ax) - (X0 - ax)) * ay + (X0 - ax) * b2
   ·exact uu _ _ (by omega) (by omega) hD ho c2 (by rw [ex]; exact Int.le_refl _)
   ·exact .inr (.inr (.inr ⟨X0 - ax, bx - ax, by omega, by omega, hD, ⟨by rw [ex]; exact Int.le_refl _, by rw [ex]; exact iml hX (Int.le_of_lt hD)⟩, by omega, by omega⟩))
theorem lf2 (hr : 0 <= r) (hX : X0 <= X1) (h1 : 0 <= n) (h2 : n <= m) (h3 : 0 < m) (hy0 : m * Y0 <= (m - n) * ay + n * b2) (hy1 : (m - n) * ay + n * b2 <= m * Y1)
 (hx0 : (m - n) * ax + n * bx <= m * X0) (hx : m * X0 - ((m - n) * ax + n * bx) <= m * r) : Res ax ay bx b2 X0 Y0 X1 Y1 r := by
 rcases Int.le_total ax bx with hd | hd
 ·exact lf hr hX h1 h2 h3 hd hy0 hy1 hx0 hx
 ·have e1 : (m - (m - n)) * bx + (m - n) * ax = (m - n) * ax + n * bx := by grind
  have e2 : (m - (m - n)) * b2 + (m - n) * ay = (m - n) * ay + n * b2 := by grind
  exact (lf (n := m - n) hr hX (by omega) (by omega) h3 hd (by rw [e2]; exact hy0) (by rw [e2]; exact hy1) (by rw [e1]; exact hx0) (by rw [e1]; exact hx)).sw
theorem rf2 (hr : 0 <= r) (hX : X0 <= X1) (h1 : 0 <= n) (h2 : n <= m) (h3 : 0 < m) (hy0 : m * Y0 <= (m - n) * ay + n * b2) (hy1 : (m - n) * ay + n * b2 <= m * Y1)
 (hx0 : m * X1 <= (m - n) * ax + n * bx) (hx : ((m - n) * ax + n * bx) - m * X1 <= m * r) : Res ax ay bx b2 X0 Y0 X1 Y1 r := by
 have e : (m - n) * -ax + n * -bx = -((m - n) * ax + n * bx) := by grind
 exact Res.rx (lf2 hr (by omega) h1 h2 h3 hy0 hy1 (by rw [e, Int.mul_neg]; omega) (by rw [e, Int.mul_neg]; omega))
theorem le_of_q2 {x y R : Int} (hR : 0 <= R) (h : q2 x y <= R * R) : x <= R := by
 refine le_sq hR ?_
 have := sq0 y
 unfold q2 at h; omega
theorem sq_abs {a b : Int} (h0 : 0 <= a) (h : a <= b ∨ a <= -b) : a * a <= b * b := by
 rcases h with h | h
 ·exact Int.mul_le_mul h h h0 (by omega)
 ·have := Int.mul_le_mul h h h0 (by omega)
  rwa [Int.neg_mul_neg] at this
theorem near_rect (hr : 0 <= r) (hk : 0 < k) (hX : X0 <= X1) (hY : Y0 <= Y1) (x0 : k * X0 <= px) (x1 : px <= k * X1) (y0 : k * Y0 <= py) (y1 : py <= k * Y1) (h : Nq ax ay bx b2 px py k r) : Res ax ay bx b2 X0 Y0 X1 Y1 r := by
 obtain ⟨n, m, h1, h2, h3, h4⟩ := h
 have hm : 0 <= m := Int.le_of_lt h3
 have key : ∀ (P Q Z0 Z1 : Int), k * Z0 <= P -> P <= k * Z1 -> (k * max (max (m * Z0 - Q) 0) (Q - m * Z1)) * (k * max (max (m * Z0 - Q) 0) (Q - m * Z1)) <= (m * P - k * Q) * (m * P - k * Q) := fun P Q Z0 Z1 g1 g2 => by
  refine sq_abs (imn (Int.le_of_lt hk) (by omega)) ?_
  have k1 := iml g1 hm
  have k2 := iml g2 hm
  have e1 : k * (m * Z0 - Q) = m * (k * Z0) - k * Q := by grind
  have e2 : k * (Q - m * Z1) = k * Q - m * (k * Z1) := by grind
  by_cases c1 : 0 <= m * Z0 - Q
  ·by_cases c2 : Q - m * Z1 <= m * Z0 - Q
   ·left; rw [show max (max (m * Z0 - Q) 0) (Q - m * Z1) = m * Z0 - Q by omega]; omega
   ·right; rw [show max (max (m * Z0 - Q) 0) (Q - m * Z1) = Q - m * Z1 by omega]; omega
  ·by_cases c2 : 0 <= Q - m * Z1
   ·right; rw [show max (max (m * Z0 - Q) 0) (Q - m * Z1) = Q - m * Z1 by omega]; omega
   ·rw [show max (max (m * Z0 - Q) 0) (Q - m * Z1) = 0 by omega, Int.mul_zero]; omega
 have kx := key px ((m - n) * ax + n * bx) X0 X1 x0 x1
 have ky := key py ((m - n) * ay + n * b2) Y0 Y1 y0 y1
 have hq : q2 (max (max (m * X0 - ((m - n) * ax + n * bx)) 0) (((m - n) * ax + n * bx) - m * X1)) (max (max (m * Y0 - ((m - n) * ay + n * b2)) 0) (((m - n) * ay + n * b2) - m * Y1)) <= m * r * (m * r) := by
  refine cancel2 hk ?_
  rw [← q2_mul, show k * k * (m * r * (m * r)) = m * k * r * (m * k * r) by grind]
  refine Int.le_trans ?_ h4
  unfold q2; omega
 have hR := imn hm hr
 have qx := le_of_q2 hR hq
 have qy := le_of_q2 hR (by rw [q2_comm]; exact hq)
 have mX := iml hX hm
 have mY := iml hY hm
 have cor : ∀ cx cy : Int, (cx = X0 ∨ cx = X1) -> (cy = Y0 ∨ cy = Y1) -> q2 (m * cx - ((m - n) * ax + n * bx)) (m * cy - ((m - n) * ay + n * b2)) <= m * r * (m * r) -> Res ax ay bx b2 X0 Y0 X1 Y1 r := fun cx cy g1 g2 g3 =>
  .inl ⟨cx, cy, g1, g2, n, m, h1, h2, h3, by rw [Int.one_mul, Int.one_mul, Int.mul_one]; exact g3⟩
 generalize hQx : (m - n) * ax + n * bx = Qx at *
 generalize hQy : (m - n) * ay + n * b2 = Qy at *
 have ng : ∀ a b : Int, q2 (b - a) (b - a) = q2 (a - b) (a - b) := fun a b => by unfold q2; grind
 by_cases a1 : Qx < m * X0
 ·rw [show max (max (m * X0 - Qx) 0) (Qx - m * X1) = m * X0 - Qx by omega] at hq qx
  by_cases b1 : Qy < m * Y0
  ·rw [show max (max (m * Y0 - Qy) 0) (Qy - m * Y1) = m * Y0 - Qy by omega] at hq
   exact cor X0 Y0 (.inl rfl) (.inl rfl) hq
  ·by_cases b3 : m * Y1 < Qy
   ·rw [show max (max (m * Y0 - Qy) 0) (Qy - m * Y1) = -(m * Y1 - Qy) by omega, q2_comm, q2_neg, q2_comm] at hq
    exact cor X0 Y1 (.inl rfl) (.inr rfl) hq
   ·exact lf2 hr hX h1 h2 h3 (by rw [hQy]; omega) (by rw [hQy]; omega) (by rw [hQx]; omega) (by rw [hQx]; omega)
 ·by_cases a3 : m * X1 < Qx
  ·rw [show max (max (m * X0 - Qx) 0) (Qx - m * X1) = -(m * X1 - Qx) by omega] at hq qx
   rw [q2_neg] at hq
   by_cases b1 : Qy < m * Y0
   ·rw [show max (max (m * Y0 - Qy) 0) (Qy - m * Y1) = m * Y0 - Qy by omega] at hq
    exact cor X1 Y0 (.inr rfl) (.inl rfl) hq
   ·by_cases b3 : m * Y1 < Qy
    ·rw [show max (max (m * Y0 - Qy) 0) (Qy - m * Y1) = -(m * Y1 - Qy) by omega, q2_comm, q2_neg, q2_comm] at hq
     exact cor X1 Y1 (.inr rfl) (.inr rfl) hq
    ·exact rf2 hr hX h1 h2 h3 (by rw [hQy]; omega) (by rw [hQy]; omega) (by rw [hQx]; omega) (by rw [hQx]; omega)
  ·by_cases b1 : Qy < m * Y0
   ·rw [show max (max (m * Y0 - Qy) 0) (Qy - m * Y1) = m * Y0 - Qy by omega] at qy
    exact Res.xy (lf2 hr hY h1 h2 h3 (by rw [hQx]; omega) (by rw [hQx]; omega) (by rw [hQy]; omega) (by rw [hQy]; omega))
   ·by_cases b3 : m * Y1 < Qy
    ·rw [show max (max (m * Y0 - Qy) 0) (Qy - m * Y1) = Qy - m * Y1 by omega] at qy
     exact Res.xy (rf2 hr hY h1 h2 h3 (by rw [hQx]; omega) (by rw [hQx]; omega) (by rw [hQy]; omega) (by rw [hQy]; omega))
    ·exact .inr (.inr (.inr ⟨n, m, h1, h2, h3, by rw [hQx]; omega, by rw [hQy]; omega⟩))
theorem meet_sides (hX : X0 <= X1) (hY : Y0 <= Y1) (h : Meet ax ay bx b2 X0 Y0 X1 Y1) : Bx ax ay bx b2 X0 Y0 X1 Y1 /\ (∃ cx cy, (cx = X0 ∨ cx = X1) /\ (cy = Y0 ∨ cy = Y1) /\ 0 <= sd ax ay bx b2 cx cy) /\ ∃ cx cy, (cx = X0 ∨ cx = X1) /\ (cy = Y0 ∨ cy = Y1) /\ sd ax ay bx b2 cx cy <= 0 := by
 obtain ⟨n, m, h1, h2, h3, ⟨h4, h5⟩, h6, h7⟩ := h
 have hm : 0 <= m := Int.le_of_lt h3
 have hmn : 0 <= m - n := by omega
 have mono : ∀ a b Z : Int, (m - n) * a + n * b <= m * Z -> ¬ (Z < min a b) := fun a b Z g hn => by
  have k1 := iml (show Z + 1 <= a by omega) hmn
  have k2 := iml (show Z + 1 <= b by omega) h1
  have e : (m - n) * (Z + 1) + n * (Z + 1) = m * Z + m := by grind
  omega
 have mono2 : ∀ a b Z : Int, m * Z <= (m - n) * a + n * b -> ¬ (max a b < Z) := fun a b Z g hn => by
  have k1 := iml (show a <= Z - 1 by omega) hmn
  have k2 := iml (show b <= Z - 1 by omega) h1
  have e : (m - n) * (Z - 1) + n * (Z - 1) = m * Z - m := by grind
  omega
 have e0 : (bx - ax) * ((m - n) * ay + n * b2) - (b2 - ay) * ((m - n) * ax + n * bx) = m * ((bx - ax) * ay - (b2 - ay) * ax) := by grind
 have es : ∀ cx cy : Int, m * sd ax ay bx b2 cx cy = (bx - ax) * (m * cy - ((m - n) * ay + n * b2)) - (b2 - ay) * (m * cx - ((m - n) * ax + n * bx)) := fun cx cy => by unfold sd; grind
 refine ⟨fun hn => ?_, ?_, ?_⟩
 ·rcases hn with hn | hn | hn | hn
  ·exact mono2 _ _ _ h4 hn
  ·exact mono _ _ _ h5 hn
  ·exact mono2 _ _ _ h6 hn
  ·exact mono _ _ _ h7 hn
 ·have sgn : ∀ D lo hi : Int, lo <= 0 -> 0 <= hi -> 0 <= D * hi ∨ 0 <= D * lo := fun D lo hi l1 l2 => by
   rcases Int.le_total 0 D with hD | hD
   ·exact .inl (imn hD l2)
   ·exact .inr (by have := imn (show 0 <= -D by omega) (show 0 <= -lo by omega); rwa [Int.neg_mul_neg] at this)
  have s1 := sgn (bx - ax) (m * Y0 - ((m - n) * ay + n * b2)) (m * Y1 - ((m - n) * ay + n * b2)) (by omega) (by omega)
  have s2 := sgn (-(b2 - ay)) (m * X0 - ((m - n) * ax + n * bx)) (m * X1 - ((m - n) * ax + n * bx)) (by omega) (by omega)
  rw [Int.neg_mul, Int.neg_mul] at s2
  rcases s1 with s1 | s1 <;> rcases s2 with s2 | s2
  ·exact ⟨X1, Y1, .inr rfl, .inr rfl, cancel h3 (by rw [es]; omega)⟩
  ·exact ⟨X0, Y1, .inl rfl, .inr rfl, cancel h3 (by rw [es]; omega)⟩
  ·exact ⟨X1, Y0, .inr rfl, .inl rfl, cancel h3 (by rw [es]; omega)⟩
  ·exact ⟨X0, Y0, .inl rfl, .inl rfl, cancel h3 (by rw [es]; omega)⟩
 ·have sgn : ∀ D lo hi : Int, lo <= 0 -> 0 <= hi -> D * hi <= 0 ∨ D * lo <= 0 := fun D lo hi l1 l2 => by
   rcases Int.le_total 0 D with hD | hD
   ·exact .inr (by have := imn hD (show 0 <= -lo by omega); rw [Int.mul_neg] at this; omega)
   ·exact .inl (by have := imn (show 0 <= -D by omega) l2; rw [Int.neg_mul] at this; omega)
  have s1 := sgn (bx - ax) (m * Y0 - ((m - n) * ay + n * b2)) (m * Y1 - ((m - n) * ay + n * b2)) (by omega) (by omega)
  have s2 := sgn (-(b2 - ay)) (m * X0 - ((m - n) * ax + n * bx)) (m * X1 - ((m - n) * ax + n * bx)) (by omega) (by omega)
  rw [Int.neg_mul, Int.neg_mul] at s2
  rcases s1 with s1 | s1 <;> rcases s2 with s2 | s2
  ·exact ⟨X1, Y1, .inr rfl, .inr rfl, cancel h3 (by rw [es]; omega)⟩
  ·exact ⟨X0, Y1, .inl rfl, .inr rfl, cancel h3 (by rw [es]; omega)⟩
  ·exact ⟨X1, Y0, .inr rfl, .inl rfl, cancel h3 (by rw [es]; omega)⟩
  ·exact ⟨X0, Y0, .inl rfl, .inl rfl, cancel h3 (by rw [es]; omega)⟩
end
noncomputable section
section
variable {ax ay bx b2 px py r n m k X0 Y0 X1 Y1 : Int}
def Sides (ax ay bx b2 X0 Y0 X1 Y1 : Int) : Prop := (∃ cx cy, (cx = X0 ∨ cx = X1) /\ (cy = Y0 ∨ cy = Y1) /\ 0 <= sd ax ay bx b2 cx cy) /\ ∃ cx cy, (cx = X0 ∨ cx = X1) /\ (cy = Y0 ∨ cy = Y1) /\ sd ax ay bx b2 cx cy <= 0
theorem Meet.rx (h : Meet (-ax) ay (-bx) b2 (-X1) Y0 (-X0) Y1) : Meet ax ay bx b2 X0 Y0 X1 Y1 := by
 obtain ⟨n, m, h1, h2, h3, h4, h5⟩ := h
 refine ⟨n, m, h1, h2, h3, ?_, h5⟩
 have e : (m - n) * -ax + n * -bx = -((m - n) * ax + n * bx) := by grind
 rw [e, Int.mul_neg, Int.mul_neg] at h4
 omega
theorem Meet.ry (h : Meet ax (-ay) bx (-b2) X0 (-Y1) X1 (-Y0)) : Meet ax ay bx b2 X0 Y0 X1 Y1 := by
 obtain ⟨n, m, h1, h2, h3, h4, h5⟩ := h
 refine ⟨n, m, h1, h2, h3, h4, ?_⟩
 have e : (m - n) * -ay + n * -b2 = -((m - n) * ay + n * b2) := by grind
 rw [e, Int.mul_neg, Int.mul_neg] at h5
 omega
theorem Sides.rx (h : Sides ax ay bx b2 X0 Y0 X1 Y1) : Sides (-ax) ay (-bx) b2 (-X1) Y0 (-X0) Y1 := by
 have e : ∀ cx cy, sd (-ax) ay (-bx) b2 (-cx) cy = -sd ax ay bx b2 cx cy := fun cx cy => by unfold sd; grind
 obtain ⟨⟨cx, cy, h1, h2, h3⟩, dx, dy, g1, g2, g3⟩ := h
 exact ⟨⟨-dx, dy, by omega, g2, by rw [e]; omega⟩, -cx, cy, by omega, h2, by rw [e]; omega⟩
theorem Sides.ry (h : Sides ax ay bx b2 X0 Y0 X1 Y1) : Sides ax (-ay) bx (-b2) X0 (-Y1) X1 (-Y0) := by
 have e : ∀ cx cy, sd ax (-ay) bx (-b2) cx (-cy) = -sd ax ay bx b2 cx cy := fun cx cy => by unfold sd; grind
 obtain ⟨⟨cx, cy, h1, h2, h3⟩, dx, dy, g1, g2, g3⟩ := h
 exact ⟨⟨dx, -dy, g1, by omega, by rw [e]; omega⟩, cx, -cy, h1, by omega, by rw [e]; omega⟩
theorem sat0 (hX : X0 <= X1) (hY : Y0 <= Y1) (hB : Bx ax ay bx b2 X0 Y0 X1 Y1) (hS : Sides ax ay bx b2 X0 Y0 X1 Y1) (hx : ax <= bx) (hy : ay <= b2) : Meet ax ay bx b2 X0 Y0 X1 Y1 := by
 unfold Bx at hB
 have hdx : 0 <= bx - ax := by omega
 have hdy : 0 <= b2 - ay := by omega
 obtain ⟨⟨cx, cy, s1, s2, s3⟩, ex, ey, t1, t2, t3⟩ := hS
 unfold sd at s3 t3
 -- the way to a corner
 have up : ∀ cx cy : Int, (cx = X0 ∨ cx = X1) -> (cy = Y0 ∨ cy = Y1) -> (bx - ax) * (cy - ay) <= (bx - ax) * (Y1 - ay) /\ (bx - ax) * (Y0 - ay) <= (bx - ax) * (cy - ay) /\ (b2 - ay) * (X0 - ax) <= (b2 - ay) * (cx - ax) /\ (b2 - ay) * (cx - ax) <= (b2 - ay) * (X1 - ax) := fun cx cy h1 h2 =>
  ⟨iml (by omega) hdx, iml (by omega) hdx, iml (by omega) hdy, iml (by omega) hdy⟩
 have u1 := up cx cy s1 s2
 have u2 := up ex ey t1 t2
 have main : ∀ N D : Int, 0 <= N -> N <= D -> 0 < D -> (D * (X0 - ax) <= N * (bx - ax) /\ N * (bx - ax) <= D * (X1 - ax)) -> (D * (Y0 - ay) <= N * (b2 - ay) /\ N * (b2 - ay) <= D * (Y1 - ay)) -> Meet ax ay bx b2 X0 Y0 X1 Y1 := fun N D h1 h2 h3 h4 h5 => by
  have e1 : (D - N) * ax + N * bx = D * ax + N * (bx - ax) := by grind
  have e2 : (D - N) * ay + N * b2 = D * ay + N * (b2 - ay) := by grind
  rw [Int.mul_sub D, Int.mul_sub D] at h4 h5
  exact ⟨N, D, h1, h2, h3, by rw [e1]; omega, by rw [e2]; omega⟩
 by_cases a1 : ax < X0
 ·by_cases a2 : (bx - ax) * (Y0 - ay) <= (X0 - ax) * (b2 - ay)
  ·have hD : 0 < bx - ax := by omega
   have c1 : (b2 - ay) * (X0 - ax) = (X0 - ax) * (b2 - ay) := Int.mul_comm ..
   refine main (X0 - ax) (bx - ax) (by omega) (by omega) hD ⟨by rw [Int.mul_comm]; exact Int.le_refl _, ?_⟩ ⟨a2, by omega⟩
   rw [Int.mul_comm]; exact iml (by omega) hdx
  ·have a3 : ay < Y0 := by
    apply Classical.byContradiction; intro hn
    have k1 := imn hdx (show 0 <= ay - Y0 by omega)
    have k2 := imn (show 0 <= X0 - ax by omega) hdy
    have e : (bx - ax) * (ay - Y0) = -((bx - ax) * (Y0 - ay)) := by grind
    omega
   have hD : 0 < b2 - ay := by omega
   have c1 : (b2 - ay) * (X0 - ax) = (X0 - ax) * (b2 - ay) := Int.mul_comm ..
   have c2 : (bx - ax) * (Y0 - ay) = (Y0 - ay) * (bx - ax) := Int.mul_comm ..
   refine main (Y0 - ay) (b2 - ay) (by omega) (by omega) hD ⟨by omega, by omega⟩ ⟨by rw [Int.mul_comm]; exact Int.le_refl _, ?_⟩
   rw [Int.mul_comm]; exact iml (by omega) hdy
 ·by_cases a3 : ay < Y0
  ·have hD : 0 < b2 - ay := by omega
   have c2 : (bx - ax) * (Y0 - ay) = (Y0 - ay) * (bx - ax) := Int.mul_comm ..
   refine main (Y0 - ay) (b2 - ay) (by omega) (by omega) hD ⟨?_, by omega⟩ ⟨by rw [Int.mul_comm]; exact Int.le_refl _, ?_⟩
   ·have k1 := imn hdy (show 0 <= ax - X0 by omega)
    have k2 := imn (show 0 <= Y0 - ay by omega) hdx
    have e : (b2 - ay) * (ax - X0) = -((b2 - ay) * (X0 - ax)) := by grind
    omega
   ·rw [Int.mul_comm]; exact iml (by omega) hdy
  ·exact ⟨0, 1, by omega, by omega, by omega, by omega, by omega⟩
theorem bx_rx (h : Bx ax ay bx b2 X0 Y0 X1 Y1) : Bx (-ax) ay (-bx) b2 (-X1) Y0 (-X0) Y1 := by unfold Bx at *; omega
theorem bx_ry (h : Bx ax ay bx b2 X0 Y0 X1 Y1) : Bx ax (-ay) bx (-b2) X0 (-Y1) X1 (-Y0) := by unfold Bx at *; omega
theorem sat_meet (hX : X0 <= X1) (hY : Y0 <= Y1) (hB : Bx ax ay bx b2 X0 Y0 X1 Y1) (hS : Sides ax ay bx b2 X0 Y0 X1 Y1) : Meet ax ay bx b2 X0 Y0 X1 Y1 := by
 rcases Int.le_total ax bx with h1 | h1 <;> rcases Int.le_total ay b2 with h2 | h2
 ·exact sat0 hX hY hB hS h1 h2
 ·exact Meet.ry (sat0 hX (by omega) (bx_ry hB) hS.ry h1 (by omega))
 ·exact Meet.rx (sat0 (by omega) hY (bx_rx hB) hS.rx (by omega) h2)
 ·exact Meet.rx (Meet.ry (sat0 (by omega) (by omega) (bx_ry (bx_rx hB)) hS.rx.ry (by omega) (by omega)))
def Hit (ax ay bx b2 X0 Y0 X1 Y1 r : Int) : Prop := ∃ px py k, 0 < k /\ (k * X0 <= px /\ px <= k * X1) /\ (k * Y0 <= py /\ py <= k * Y1) /\ Nq ax ay bx b2 px py k r
theorem hit_res (hr : 0 <= r) (hX : X0 <= X1) (hY : Y0 <= Y1) : Hit ax ay bx b2 X0 Y0 X1 Y1 r ↔ Res ax ay bx b2 X0 Y0 X1 Y1 r := by
 constructor
 ·rintro ⟨px, py, k, hk, ⟨h1, h2⟩, ⟨h3, h4⟩, h⟩
  exact near_rect hr hk hX hY h1 h2 h3 h4 h
 ·rintro (⟨cx, cy, h1, h2, h3⟩ | h | h | ⟨n, m, h1, h2, h3, h4, h5⟩)
  ·exact ⟨cx, cy, 1, by omega, by omega, by omega, h3⟩
  ·refine ⟨max X0 (min ax X1), max Y0 (min ay Y1), 1, by omega, by omega, by omega, 0, 1, by omega, by omega, by omega, ?_⟩
   unfold Endn at h
   have ex : 1 * max X0 (min ax X1) - 1 * ((1 - 0) * ax + 0 * bx) = max X0 (min ax X1) - ax := by omega
   have ey : 1 * max Y0 (min ay Y1) - 1 * ((1 - 0) * ay + 0 * b2) = max Y0 (min ay Y1) - ay := by omega
   rw [ex, ey, show 1 * 1 * r = r by omega]
   refine Int.le_trans ?_ h
   unfold q2
   have k1 : (max X0 (min ax X1) - ax) * (max X0 (min ax X1) - ax) <= max (max (X0 - ax) 0) (ax - X1) * max (max (X0 - ax) 0) (ax - X1) := by
    rcases Int.le_total 0 (max X0 (min ax X1) - ax) with h0 | h0
    ·exact sq_abs h0 (.inl (by omega))
    ·have := sq_abs (a := -(max X0 (min ax X1) - ax)) (b := max (max (X0 - ax) 0) (ax - X1)) (by omega) (.inl (by omega))
     rwa [Int.neg_mul_neg] at this
   have k2 : (max Y0 (min ay Y1) - ay) * (max Y0 (min ay Y1) - ay) <= max (max (Y0 - ay) 0) (ay - Y1) * max (max (Y0 - ay) 0) (ay - Y1) := by
    rcases Int.le_total 0 (max Y0 (min ay Y1) - ay) with h0 | h0
    ·exact sq_abs h0 (.inl (by omega))
    ·have := sq_abs (a := -(max Y0 (min ay Y1) - ay)) (b := max (max (Y0 - ay) 0) (ay - Y1)) (by omega) (.inl (by omega))
     rwa [Int.neg_mul_neg] at this
   omega
  ·refine ⟨max X0 (min bx X1), max Y0 (min b2 Y1), 1, by omega, by omega, by omega, 1, 1, by omega, by omega, by omega, ?_⟩
   unfold Endn at h
   have ex : 1 * max X0 (min bx X1) - 1 * ((1 - 1) * ax + 1 * bx) = max X0 (min bx X1) - bx := by omega
   have ey : 1 * max Y0 (min b2 Y1) - 1 * ((1 - 1) * ay + 1 * b2) = max Y0 (min b2 Y1) - b2 := by omega
   rw [ex, ey, show 1 * 1 * r = r by omega]
   refine Int.le_trans ?_ h
   unfold q2
   have k1 : (max X0 (min bx X1) - bx) * (max X0 (min bx X1) - bx) <= max (max (X0 - bx) 0) (bx - X1) * max (max (X0 - bx) 0) (bx - X1) := by
    rcases Int.le_total 0 (max X0 (min bx X1) - bx) with h0 | h0
    ·exact sq_abs h0 (.inl (by omega))
    ·have := sq_abs (a := -(max X0 (min bx X1) - bx)) (b := max (max (X0 - bx) 0) (bx - X1)) (by omega) (.inl (by omega))
     rwa [Int.neg_mul_neg] at this
   have k2 : (max Y0 (min b2 Y1) - b2) * (max Y0 (min b2 Y1) - b2) <= max (max (Y0 - b2) 0) (b2 - Y1) * max (max (Y0 - b2) 0) (b2 - Y1) := by
    rcases Int.le_total 0 (max Y0 (min b2 Y1) - b2) with h0 | h0
    ·exact sq_abs h0 (.inl (by omega))
    ·have := sq_abs (a := -(max Y0 (min b2 Y1) - b2)) (b := max (max (Y0 - b2) 0) (b2 - Y1)) (by omega) (.inl (by omega))
     rwa [Int.neg_mul_neg] at this
   omega
  ·refine ⟨(m - n) * ax + n * bx, (m - n) * ay + n * b2, m, h3, h4, h5, n, m, h1, h2, h3, ?_⟩
   rw [Int.sub_self, Int.sub_self]
   have := sq0 (m * m * r)
   unfold q2; omega
end
end
end Go.Dx
namespace Go.Dx
open Go.Sx
noncomputable section
section
variable {ax ay bx b2 w X0 Y0 X1 Y1 : Int}
theorem far_end (h1 : sm ax) (h2 : sm ay) (g1 : pl X0) (g2 : pl Y0) (g3 : pl X1) (g4 : pl Y1) (h7 : 0 <= w) (h8 : w <= 1073741824) : far2 ax ay X0 Y0 X1 Y1 <= IntKind.i64.wrap (w * w) ↔ Endn ax ay (2 * X0) (2 * Y0) (2 * X1) (2 * Y1) w := by
 unfold far2 Endn q2
 rw [(dbl g1).1, (dbl g2).1, (dbl g3).1, (dbl g4).1]
 unfold sm at h1 h2
 unfold pl at g1 g2 g3 g4
 rw [wrapI (x := 2 * X0 - ax) (by omega) (by omega), wrapI (x := ax - 2 * X1) (by omega) (by omega), wrapI (x := 2 * Y0 - ay) (by omega) (by omega), wrapI (x := ay - 2 * Y1) (by omega) (by omega)]
 rw [Int.max_comm 0 (2 * X0 - ax), Int.max_comm 0 (2 * Y0 - ay)]
 have p0 : 0 <= max (max (2 * X0 - ax) 0) (ax - 2 * X1) /\ max (max (2 * X0 - ax) 0) (ax - 2 * X1) <= 1073741824 := by omega
 have q0 : 0 <= max (max (2 * Y0 - ay) 0) (ay - 2 * Y1) /\ max (max (2 * Y0 - ay) 0) (ay - 2 * Y1) <= 1073741824 := by omega
 generalize max (max (2 * X0 - ax) 0) (ax - 2 * X1) = p at p0 ⊢
 generalize max (max (2 * Y0 - ay) 0) (ay - 2 * Y1) = q at q0 ⊢
 have hr := mulS (x := w) (y := w) (A := 1073741824) (B := 1073741824) (by omega) h8 (by omega) h8
 have hp := mulS (x := p) (y := p) (A := 1073741824) (B := 1073741824) (by omega) p0.2 (by omega) p0.2
 have hq := mulS (x := q) (y := q) (A := 1073741824) (B := 1073741824) (by omega) q0.2 (by omega) q0.2
 rw [wrapI (x := w * w) (by omega) (by omega), wrapI (x := p * p) (by omega) (by omega), wrapI (x := q * q) (by omega) (by omega), wrapI (x := p * p + q * q) (by omega) (by omega)]
theorem piece_v (h1 : sm ax) (h2 : sm ay) (h3 : sm bx) (h4 : sm b2) (g1 : pl X0) (g2 : pl Y0) (g3 : pl X1) (g4 : pl Y1) (hX : X0 <= X1) (hY : Y0 <= Y1) (h7 : 0 <= w) (h8 : w <= 1073741824) :
 (F111_0 ax ay bx b2 w X0 Y0 X1 Y1 = 2 ↔ nr ax ay bx b2 (2 * X0) (2 * Y0) w = true /\ nr ax ay bx b2 (2 * X1) (2 * Y0) w = true /\ nr ax ay bx b2 (2 * X1) (2 * Y1) w = true /\ nr ax ay bx b2 (2 * X0) (2 * Y1) w = true) /\
 (F111_0 ax ay bx b2 w X0 Y0 X1 Y1 = 0 ↔ ¬ Hit ax ay bx b2 (2 * X0) (2 * Y0) (2 * X1) (2 * Y1) w) /\ 0 <= F111_0 ax ay bx b2 w X0 Y0 X1 Y1 /\ F111_0 ax ay bx b2 w X0 Y0 X1 Y1 <= 2 := by
 have hH : Hit ax ay bx b2 (2 * X0) (2 * Y0) (2 * X1) (2 * Y1) w ↔ (nr ax ay bx b2 (2 * X0) (2 * Y0) w = true ∨ nr ax ay bx b2 (2 * X1) (2 * Y0) w = true ∨ nr ax ay bx b2 (2 * X1) (2 * Y1) w = true ∨ nr ax ay bx b2 (2 * X0) (2 * Y1) w = true) ∨ far2 ax ay X0 Y0 X1 Y1 <= IntKind.i64.wrap (w * w) ∨ far2 bx b2 X0 Y0 X1 Y1 <= IntKind.i64.wrap (w * w) ∨ F145_0 ax ay bx b2 X0 Y0 X1 Y1 = true := by
  rw [hit_res h7 (by omega) (by omega), far_end h1 h2 g1 g2 g3 g4 h7 h8, far_end h3 h4 g1 g2 g3 g4 h7 h8, thr_p h1 h2 h3 h4 g1 g2 g3 g4]
  unfold Res
  refine or_congr ?_ (or_congr Iff.rfl (or_congr Iff.rfl ?_))
  ·rw [nr_iff h7, nr_iff h7, nr_iff h7, nr_iff h7]
   constructor
   ·rintro ⟨cx, cy, rfl | rfl, rfl | rfl, h⟩
    ·exact .inl h
    ·exact .inr (.inr (.inr h))
    ·exact .inr (.inl h)
    ·exact .inr (.inr (.inl h))
   ·rintro (h | h | h | h)
    ·exact ⟨_, _, .inl rfl, .inl rfl, h⟩
    ·exact ⟨_, _, .inr rfl, .inl rfl, h⟩
    ·exact ⟨_, _, .inr rfl, .inr rfl, h⟩
    ·exact ⟨_, _, .inl rfl, .inr rfl, h⟩
  ·constructor
   ·intro h
    obtain ⟨k1, ⟨cx, cy, k2, k3, k4⟩, dx, dy, k5, k6, k7⟩ := meet_sides (by omega) (by omega) h
    refine ⟨k1, ?_, ?_⟩
    ·rcases k2 with rfl | rfl <;> rcases k3 with rfl | rfl
     ·exact .inl k4
     ·exact .inr (.inr (.inr k4))
     ·exact .inr (.inl k4)
     ·exact .inr (.inr (.inl k4))
    ·rcases k5 with rfl | rfl <;> rcases k6 with rfl | rfl
     ·exact .inl k7
     ·exact .inr (.inr (.inr k7))
     ·exact .inr (.inl k7)
     ·exact .inr (.inr (.inl k7))
   ·rintro ⟨k1, k2, k3⟩
    refine sat_meet (by omega) (by omega) k1 ⟨?_, ?_⟩
    ·rcases k2 with h | h | h | h
     ·exact ⟨_, _, .inl rfl, .inl rfl, h⟩
     ·exact ⟨_, _, .inr rfl, .inl rfl, h⟩
     ·exact ⟨_, _, .inr rfl, .inr rfl, h⟩
     ·exact ⟨_, _, .inl rfl, .inr rfl, h⟩
    ·rcases k3 with h | h | h | h
     ·exact ⟨_, _, .inl rfl, .inl rfl, h⟩
     ·exact ⟨_, _, .inr rfl, .inl rfl, h⟩
     ·exact ⟨_, _, .inr rfl, .inr rfl, h⟩
     ·exact ⟨_, _, .inl rfl, .inr rfl, h⟩
 rw [hH]
 unfold F111_0
 rw [far_p, far_p]
 rw [corner_p h1 h2 h3 h4 h7 h8 g1 g2, corner_p h1 h2 h3 h4 h7 h8 g3 g2, corner_p h1 h2 h3 h4 h7 h8 g3 g4, corner_p h1 h2 h3 h4 h7 h8 g1 g4]
 generalize nr ax ay bx b2 (2 * X0) (2 * Y0) w = n0
 generalize nr ax ay bx b2 (2 * X1) (2 * Y0) w = n1
 generalize nr ax ay bx b2 (2 * X1) (2 * Y1) w = n2
 generalize nr ax ay bx b2 (2 * X0) (2 * Y1) w = n3
 generalize F145_0 ax ay bx b2 X0 Y0 X1 Y1 = t
 by_cases m1 : far2 ax ay X0 Y0 X1 Y1 <= IntKind.i64.wrap (w * w)
 ·simp only [m1, decide_true]
  cases n0 <;> cases n1 <;> cases n2 <;> cases n3 <;> simp
 ·simp only [m1, decide_false]
  by_cases m2 : far2 bx b2 X0 Y0 X1 Y1 <= IntKind.i64.wrap (w * w)
  ·simp only [m2, decide_true]
   cases n0 <;> cases n1 <;> cases n2 <;> cases n3 <;> simp
  ·simp only [m2, decide_false]
   cases n0 <;> cases n1 <;> cases n2 <;> cases n3 <;> cases t <;> simp
end
theorem maxTo_nn {p : Nat -> Int} : ∀ n, 0 <= maxTo p n
 | 0 => Int.le_refl 0
 | n + 1 => by have := maxTo_nn (p := p) n; simp only [maxTo]; omega
def pxD (f : Nat -> List V) (i : Nat) : Int := 2 * jv0 (f i)
def pyD (f : Nat -> List V) (i : Nat) : Int := 2 * jv1 (f i)
def OnP (f : Nat -> List V) (w px py k : Int) (i : Nat) : Prop := Nq (pxD f i) (pyD f i) (pxD f (i + 1)) (pyD f (i + 1)) (2 * px) (2 * py) k w
section
variable {n : Nat} {f : Nat -> List V} {w : Int}
theorem p61_v (hr : RoadIn n f w) {i : Nat} (hi : i < n - 1) {X0 Y0 X1 Y1 : Int} (g1 : pl X0) (g2 : pl Y0) (g3 : pl X1) (g4 : pl Y1) (hX : X0 <= X1) (hY : Y0 <= Y1) :
 (p61 n f w X0 Y0 X1 Y1 i = 2 ↔ OnP f w X0 Y0 1 i /\ OnP f w X1 Y0 1 i /\ OnP f w X1 Y1 1 i /\ OnP f w X0 Y1 1 i) /\
 (p61 n f w X0 Y0 X1 Y1 i = 0 ↔ ¬ Hit (pxD f i) (pyD f i) (pxD f (i + 1)) (pyD f (i + 1)) (2 * X0) (2 * Y0) (2 * X1) (2 * Y1) w) /\ 0 <= p61 n f w X0 Y0 X1 Y1 i /\ p61 n f w X0 Y0 X1 Y1 i <= 2 := by
 have hj : i + 1 < n := by omega
 obtain ⟨a1, a2⟩ := hr.pts i (by omega)
 obtain ⟨b1, b2⟩ := hr.pts (i + 1) hj
 have := hr.w1
 have := hr.w2
 have hw := w1p (j := i) (n := n) (by omega) hr.eight
 unfold p61
 rw [hw]
 have k := piece_v (ax := IntKind.i64.wrap (2 * jv0 (f i))) (ay := IntKind.i64.wrap (2 * jv1 (f i))) (bx := IntKind.i64.wrap (2 * jv0 (f (i + 1)))) (b2 := IntKind.i64.wrap (2 * jv1 (f (i + 1)))) (w := w)
  (by rw [(dpt a1).1]; exact (dpt a1).2) (by rw [(dpt a2).1]; exact (dpt a2).2) (by rw [(dpt b1).1]; exact (dpt b1).2) (by rw [(dpt b2).1]; exact (dpt b2).2) g1 g2 g3 g4 hX hY (by omega) (by omega)
 rw [nr_iff (by omega), nr_iff (by omega), nr_iff (by omega), nr_iff (by omega), (dpt a1).1, (dpt a2).1, (dpt b1).1, (dpt b2).1] at k
 unfold OnP pxD pyD
 rw [(dpt a1).1, (dpt a2).1, (dpt b1).1, (dpt b2).1]
 exact k
theorem p74_v (hr : RoadIn n f w) {i : Nat} (hi : i < n - 1) {x y : Int} (g1 : pl x) (g2 : pl y) : p74 n f w x y i = true ↔ OnP f w x y 1 i := by
 have hj : i + 1 < n := by omega
 obtain ⟨a1, a2⟩ := hr.pts i (by omega)
 obtain ⟨b1, b2⟩ := hr.pts (i + 1) hj
 have := hr.w1
 have := hr.w2
 have hw := w1p (j := i) (n := n) (by omega) hr.eight
 unfold p74 OnP pxD pyD
 rw [hw]
 have s1 : sm (IntKind.i64.wrap (2 * jv0 (f i))) := by rw [(dpt a1).1]; exact (dpt a1).2
 have s2 : sm (IntKind.i64.wrap (2 * jv1 (f i))) := by rw [(dpt a2).1]; exact (dpt a2).2
 have s3 : sm (IntKind.i64.wrap (2 * jv0 (f (i + 1)))) := by rw [(dpt b1).1]; exact (dpt b1).2
 have s4 : sm (IntKind.i64.wrap (2 * jv1 (f (i + 1)))) := by rw [(dpt b2).1]; exact (dpt b2).2
 rw [corner_p s1 s2 s3 s4 (by omega) (by omega) g1 g2, nr_iff (by omega), (dpt a1).1, (dpt a2).1, (dpt b1).1, (dpt b2).1]
theorem F61_0 (hr : RoadIn n f w) {X0 Y0 X1 Y1 : Int} (g1 : pl X0) (g2 : pl Y0) (g3 : pl X1) (g4 : pl Y1) (hX : X0 <= X1) (hY : Y0 <= Y1) :
 F61 n f w X0 Y0 X1 Y1 ≠ 0 ↔ ∃ i, i < n - 1 /\ Hit (pxD f i) (pyD f i) (pxD f (i + 1)) (pyD f (i + 1)) (2 * X0) (2 * Y0) (2 * X1) (2 * Y1) w := by
 unfold F61
 constructor
 ·intro h
  apply Classical.byContradiction; intro hn
  apply h
  have : maxTo (p61 n f w X0 Y0 X1 Y1) (n - 1) <= 0 := maxTo_le (Int.le_refl 0) fun i hi => by
   have k := p61_v hr hi g1 g2 g3 g4 hX hY
   have := k.2.1.2 fun hh => hn ⟨i, hi, hh⟩
   omega
  have := maxTo_nn (p := p61 n f w X0 Y0 X1 Y1) (n - 1)
  omega
 ·rintro ⟨i, hi, hh⟩
  have k := p61_v hr hi g1 g2 g3 g4 hX hY
  have := maxTo_ge (p := p61 n f w X0 Y0 X1 Y1) hi
  have h0 : p61 n f w X0 Y0 X1 Y1 i ≠ 0 := fun h => k.2.1.1 h hh
  omega
end
end
end Go.Dx
namespace Go.Dx
open Go.IntKind (i64 u64 u8)
open Go.Sx
noncomputable section
section
variable {ax ay bx b2 r X0 Y0 X1 Y1 : Int}
theorem nq_row {a b x y : Int} (hr : 0 <= r) (h1 : Nq ax ay bx b2 a y 1 r) (h2 : Nq ax ay bx b2 b y 1 r) (ha : a <= x) (hb : x <= b) : Nq ax ay bx b2 x y 1 r := by
 by_cases e : a = b
 ·rw [show x = a by omega]; exact h1
 ·have h := Nq.cv (j := x - a) (l := b - a) hr (by omega) h1 h2 (by omega) (by omega) (by omega)
  rw [show (b - a - (x - a)) * a + (x - a) * b = (b - a) * x by grind, show (b - a - (x - a)) * y + (x - a) * y = (b - a) * y by grind] at h
  rw [Int.one_mul] at h
  exact (Nq.scale (k := 1) (l := b - a) (by omega)).2 (by rw [Int.mul_one]; exact h)
theorem nq_col {a b x y : Int} (hr : 0 <= r) (h1 : Nq ax ay bx b2 x a 1 r) (h2 : Nq ax ay bx b2 x b 1 r) (ha : a <= y) (hb : y <= b) : Nq ax ay bx b2 x y 1 r := by
 by_cases e : a = b
 ·rw [show y = a by omega]; exact h1
 ·have h := Nq.cv (j := y - a) (l := b - a) hr (by omega) h1 h2 (by omega) (by omega) (by omega)
  rw [show (b - a - (y - a)) * a + (y - a) * b = (b - a) * y by grind, show (b - a - (y - a)) * x + (y - a) * x = (b - a) * x by grind] at h
  rw [Int.one_mul] at h
  exact (Nq.scale (k := 1) (l := b - a) (by omega)).2 (by rw [Int.mul_one]; exact h)
theorem Hit.sub {U0 V0 U1 V1 : Int} (h : Hit ax ay bx b2 X0 Y0 X1 Y1 r) (a1 : U0 <= X0) (a2 : X1 <= U1) (b1 : V0 <= Y0) (b2' : Y1 <= V1) : Hit ax ay bx b2 U0 V0 U1 V1 r := by
 obtain ⟨px, py, k, hk, h1, h2, h3⟩ := h
 have hk0 := Int.le_of_lt hk
 have := iml a1 hk0
 have := iml a2 hk0
 have := iml b1 hk0
 have := iml b2' hk0
 exact ⟨px, py, k, hk, by omega, by omega, h3⟩
theorem Hit.pt {x y : Int} (h : Hit ax ay bx b2 x y x y r) : Nq ax ay bx b2 x y 1 r := by
 obtain ⟨px, py, k, hk, h1, h2, h3⟩ := h
 refine (Nq.scale (k := 1) hk).2 ?_
 rw [Int.mul_one, show k * x = px by omega, show k * y = py by omega]
 exact h3
theorem Hit.of {x y : Int} (h : Nq ax ay bx b2 x y 1 r) (a1 : X0 <= x) (a2 : x <= X1) (b1 : Y0 <= y) (b2' : y <= Y1) : Hit ax ay bx b2 X0 Y0 X1 Y1 r := ⟨x, y, 1, by omega, by omega, by omega, h⟩
theorem Nq.wide {px py k s : Int} (hr : 0 <= r) (hs : r <= s) (hk : 0 < k) (h : Nq ax ay bx b2 px py k r) : Nq ax ay bx b2 px py k s := by
 obtain ⟨n, m, h1, h2, h3, h4⟩ := h
 have hmk : 0 <= m * k := Int.le_of_lt (Int.mul_pos h3 hk)
 exact ⟨n, m, h1, h2, h3, Int.le_trans h4 (Int.mul_le_mul (iml hs hmk) (iml hs hmk) (imn hmk hr) (imn hmk (Int.le_trans hr hs)))⟩
end
section
variable {n : Nat} {f : Nat -> List V} {w X0 Y0 X1 Y1 : Int}
theorem OnP.all {x y : Int} {i : Nat} (hw : 0 <= w) (h : OnP f w X0 Y0 1 i /\ OnP f w X1 Y0 1 i /\ OnP f w X1 Y1 1 i /\ OnP f w X0 Y1 1 i) (a1 : X0 <= x) (a2 : x <= X1) (b1 : Y0 <= y) (b2 : y <= Y1) : OnP f w x y 1 i :=
 nq_col hw (nq_row hw h.1 h.2.1 (by omega) (by omega)) (nq_row hw h.2.2.2 h.2.2.1 (by omega) (by omega)) (by omega) (by omega)
theorem F74_v (hr : RoadIn n f w) {x y : Int} (g1 : pl x) (g2 : pl y) : F74 n f w x y = true ↔ ∃ i, i < n - 1 /\ OnP f w x y 1 i := by
 unfold F74
 rw [exB_iff]
 exact ⟨fun ⟨i, hi, h⟩ => ⟨i, hi, (p74_v hr hi g1 g2).1 h⟩, fun ⟨i, hi, h⟩ => ⟨i, hi, (p74_v hr hi g1 g2).2 h⟩⟩
end
end
noncomputable section
def befP (a b : Int × Int) : Prop := a.2 < b.2 ∨ (a.2 = b.2 /\ a.1 < b.1)
theorem rowF_pw {q : Int -> Int -> Bool} {j : Int} : ∀ (c : Nat) (i : Int), (rowF q j c i).Pairwise befP
 | 0, _ => List.Pairwise.nil
 | c + 1, i => by
   simp only [rowF]
   cases hq : q i j with
   | true =>
     refine List.pairwise_cons.2 ⟨fun p hp => ?_, rowF_pw c (i + 1)⟩
     obtain ⟨h1, h2, h3, h4⟩ := rowF_mem.1 hp
     exact .inr ⟨h1.symm, by show i < p.1; omega⟩
   | false => exact rowF_pw c (i + 1)
theorem gridF_pw {q : Int -> Int -> Bool} {i0 : Int} {W : Nat} : ∀ (h : Nat) (j : Int), (gridF q i0 W h j).Pairwise befP
 | 0, _ => List.Pairwise.nil
 | h + 1, j => by
   simp only [gridF]
   refine List.pairwise_append.2 ⟨rowF_pw W i0, gridF_pw h (j + 1), fun a ha b hb => ?_⟩
   obtain ⟨h1, h2, h3, h4⟩ := rowF_mem.1 ha
   obtain ⟨⟨g1, g2⟩, g3, g4, g5⟩ := gridF_mem.1 hb
   exact .inl (by omega)
theorem on_box {f : Nat -> List V} {w px py lo hi lo' hi' : Int} {i : Nat} (hw : 0 <= w) (h : OnP f w px py 1 i) (a1 : lo <= jv0 (f i) /\ jv0 (f i) <= hi) (a2 : lo' <= jv1 (f i) /\ jv1 (f i) <= hi')
 (b1 : lo <= jv0 (f (i + 1)) /\ jv0 (f (i + 1)) <= hi) (b2 : lo' <= jv1 (f (i + 1)) /\ jv1 (f (i + 1)) <= hi') : (2 * lo - w <= 2 * px /\ 2 * px <= 2 * hi + w) /\ 2 * lo' - w <= 2 * py /\ 2 * py <= 2 * hi' + w := by
 obtain ⟨n, m, h1, h2, h3, h4⟩ := h
 unfold pxD pyD at h4
 rw [Int.one_mul, Int.one_mul, Int.mul_one] at h4
 have hmw : 0 <= m * w := imn (Int.le_of_lt h3) hw
 have key : ∀ p a b lo hi : Int, lo <= a /\ a <= hi -> lo <= b /\ b <= hi -> m * (2 * p) - ((m - n) * (2 * a) + n * (2 * b)) <= m * w -> -(m * (2 * p) - ((m - n) * (2 * a) + n * (2 * b))) <= m * w -> 2 * lo - w <= 2 * p /\ 2 * p <= 2 * hi + w := fun p a b lo hi ha hb k1 k2 => by
  have hmn : 0 <= m - n := by omega
  have q1 := iml (show 2 * a <= 2 * hi by omega) hmn
  have q2 := iml (show 2 * b <= 2 * hi by omega) h1
  have q3 := iml (show 2 * lo <= 2 * a by omega) hmn
  have q4 := iml (show 2 * lo <= 2 * b by omega) h1
  have e1 : (m - n) * (2 * hi) + n * (2 * hi) = m * (2 * hi) := by grind
  have e2 : (m - n) * (2 * lo) + n * (2 * lo) = m * (2 * lo) := by grind
  refine ⟨cancel h3 ?_, cancel h3 ?_⟩
  ·rw [Int.mul_sub]; omega
  ·rw [Int.mul_add]; omega
 refine ⟨key _ _ _ _ _ a1 b1 (le_of_q2 hmw h4) (le_of_q2 hmw (by rw [q2_neg]; exact h4)), key _ _ _ _ _ a2 b2 (le_of_q2 hmw (by rw [q2_comm]; exact h4)) (le_of_q2 hmw (by rw [q2_neg, q2_comm]; exact h4))⟩
section
variable {f0 : Nat -> List V} {x8 x9 : Int}
abbrev patL0 (f0 : FnV) (x8 x9 : Int) : List (Int × Int) := patT (qP f0 x8 x9) f0 x8 x9
theorem sq_mem (h : GridIn f0 x8 x9) {p : Int × Int} : p ∈ patL0 f0 x8 x9 ↔ (cJ0 f0 x8 x9 <= p.2 /\ p.2 <= cJ1 f0 x8 x9) /\ (cI0 f0 x8 x9 <= p.1 /\ p.1 <= cI1 f0 x8 x9) /\ qP f0 x8 x9 p.1 p.2 = true := by
 have := h.wi; have := h.wj
 unfold patL0 patT
 rw [gridF_mem]
 constructor
 ·rintro ⟨⟨h1, h2⟩, h3, h4, h5⟩; exact ⟨⟨h1, by omega⟩, ⟨h3, by omega⟩, h5⟩
 ·rintro ⟨⟨h1, h2⟩, ⟨h3, h4⟩, h5⟩; exact ⟨⟨h1, by omega⟩, h3, by omega, h5⟩
theorem sq_box (h : GridIn f0 x8 x9) {p : Int × Int} {k : Nat} (hk : (patL0 f0 x8 x9)[k]? = some p) : boxF (sqP x9) (patL0 f0 x8 x9) k = v4 (p.1 * x9) (p.2 * x9) (p.1 * x9 + x9) (p.2 * x9 + x9) := by
 obtain ⟨⟨h1, h2⟩, ⟨h3, h4⟩, h5⟩ := (sq_mem h).1 (List.mem_of_getElem? hk)
 obtain ⟨e1, e2, e3, e4, e5, e6⟩ := sq_eq h h3 h4 h1 h2
 unfold boxF
 rw [hk]
 show sqP x9 p.1 p.2 = _
 unfold sqP
 rw [e1, e2, e3, e4]
theorem sq_hit (hr : RoadIn (npt f0 x8) (ptf f0 x8) (wid f0 x8)) (h : GridIn f0 x8 x9) {i j : Int} (h1 : cJ0 f0 x8 x9 <= j /\ j <= cJ1 f0 x8 x9) (h3 : cI0 f0 x8 x9 <= i /\ i <= cI1 f0 x8 x9) :
 qP f0 x8 x9 i j = true ↔ F61 (npt f0 x8) (ptf f0 x8) (wid f0 x8) (i * x9) (j * x9) (i * x9 + x9) (j * x9 + x9) ≠ 0 := by
 obtain ⟨e1, e2, e3, e4, e5, e6⟩ := sq_eq h h3.1 h3.2 h1.1 h1.2
 unfold qP
 rw [e1, e2, e3, e4]
 simp
theorem cover (hr : RoadIn (npt f0 x8) (ptf f0 x8) (wid f0 x8)) (h : GridIn f0 x8 x9) {x y : Int} {i : Nat} (hi : i < npt f0 x8 - 1) (ho : OnP (ptf f0 x8) (wid f0 x8) x y 1 i) :
 ∃ (k : Nat) (p : Int × Int), (patL0 f0 x8 x9)[k]? = some p /\ (p.1 * x9 <= x /\ x <= p.1 * x9 + x9) /\ p.2 * x9 <= y /\ y <= p.2 * x9 + x9 := by
 have w1 := h.w1; have s1 := h.s1; have s2 := h.s2
 have i2 : i + 1 < npt f0 x8 := by omega
 have i1 : i < npt f0 x8 := by omega
 obtain ⟨⟨x0, x1⟩, y0, y1⟩ := on_box (lo := mnTo (gxp f0 x8) (npt f0 x8)) (hi := mxTo (gxp f0 x8) (npt f0 x8)) (lo' := mnTo (gyp f0 x8) (npt f0 x8)) (hi' := mxTo (gyp f0 x8) (npt f0 x8)) (by omega) ho
  ⟨mnTo_le (g := gxp f0 x8) i1, mxTo_ge (g := gxp f0 x8) i1⟩ ⟨mnTo_le (g := gyp f0 x8) i1, mxTo_ge (g := gyp f0 x8) i1⟩ ⟨mnTo_le (g := gxp f0 x8) i2, mxTo_ge (g := gxp f0 x8) i2⟩ ⟨mnTo_le (g := gyp f0 x8) i2, mxTo_ge (g := gyp f0 x8) i2⟩
 have s0 : 0 < x9 := by omega
 have bI : cI0 f0 x8 x9 <= x / x9 /\ x / x9 <= cI1 f0 x8 x9 := ⟨Int.ediv_le_ediv s0 (by omega), Int.ediv_le_ediv s0 (by omega)⟩
 have bJ : cJ0 f0 x8 x9 <= y / x9 /\ y / x9 <= cJ1 f0 x8 x9 := ⟨Int.ediv_le_ediv s0 (by omega), Int.ediv_le_ediv s0 (by omega)⟩
 have rx : x / x9 * x9 <= x /\ x <= x / x9 * x9 + x9 := by
  have := Int.ediv_mul_le x (b := x9) (by omega)
  have := Int.lt_ediv_add_one_mul_self x s0
  rw [Int.add_mul, Int.one_mul] at this; omega
 have ry : y / x9 * x9 <= y /\ y <= y / x9 * x9 + x9 := by
  have := Int.ediv_mul_le y (b := x9) (by omega)
  have := Int.lt_ediv_add_one_mul_self y s0
  rw [Int.add_mul, Int.one_mul] at this; omega
 obtain ⟨p1, p2, p3⟩ := xs_in h bI.1 bI.2
 obtain ⟨r1, r2, r3⟩ := ys_in h bJ.1 bJ.2
 have hq : qP f0 x8 x9 (x / x9) (y / x9) = true := by
  rw [sq_hit hr h bJ bI, F61_0 hr (by unfold pl; omega) (by unfold pl; omega) (by unfold pl; omega) (by unfold pl; omega) (by omega) (by omega)]
  exact ⟨i, hi, 2 * x, 2 * y, 1, by omega, by omega, by omega, ho⟩
 obtain ⟨k, hk⟩ := List.getElem?_of_mem ((sq_mem h (p := (x / x9, y / x9))).2 ⟨bJ, bI, hq⟩)
 exact ⟨k, _, hk, rx, ry⟩
theorem sq_pw (h : GridIn f0 x8 x9) {k : Nat} {p q : Int × Int} (hp : (patL0 f0 x8 x9)[k]? = some p) (hq : (patL0 f0 x8 x9)[k + 1]? = some q) : p.2 * x9 < q.2 * x9 ∨ (p.2 * x9 = q.2 * x9 /\ p.1 * x9 < q.1 * x9) := by
 have s1 := h.s1
 have s0 : 0 < x9 := by omega
 have pw : (patL0 f0 x8 x9).Pairwise befP := gridF_pw _ _
 obtain ⟨l1, e1⟩ := List.getElem?_eq_some_iff.1 hp
 obtain ⟨l2, e2⟩ := List.getElem?_eq_some_iff.1 hq
 have := (List.pairwise_iff_getElem.1 pw) k (k + 1) l1 l2 (by omega)
 rw [e1, e2] at this
 rcases this with h1 | ⟨h1, h2⟩
 ·exact .inl (Int.mul_lt_mul_of_pos_right h1 s0)
 ·exact .inr ⟨by rw [h1], Int.mul_lt_mul_of_pos_right h2 s0⟩
end
section
variable {n0 : Nat} {f0 : Nat -> List V} {n2 : Nat} {f2 : Nat -> List V} {n4 : Nat} {f4 : Nat -> List V} {n6 : Nat} {f6 : Nat -> List V} {x8 x9 : Int}
theorem patE_0 {e : Int} {bad : Bool} {m : Int} {L : List (Int × Int)} (h : patE e bad m L = 0) : (e != 0) = false /\ bad = false := by
 unfold patE at h
 cases he : e != 0 with
 | true => rw [he] at h; have h1 : e = 0 := h; rw [h1] at he; cases he
 | false =>
   cases hb : bad with
   | true => rw [he, hb] at h; cases h
   | false => exact ⟨rfl, rfl⟩
theorem l12 (h : F35_e n0 (elV tyR f0) n2 (elV tyT f2) n4 (elV tyF f4) n6 (elV tyC f6) x8 x9 = 0) : RoadIn (npt f0 x8) (ptf f0 x8) (wid f0 x8) /\ GridIn f0 x8 x9 /\
 F35_n n0 (elV tyR f0) n2 (elV tyT f2) n4 (elV tyF f4) n6 (elV tyC f6) x8 x9 = (patL0 f0 x8 x9).length /\ (∀ k, F35_f n0 (elV tyR f0) n2 (elV tyT f2) n4 (elV tyF f4) n6 (elV tyC f6) x8 x9 k = boxF (sqP x9) (patL0 f0 x8 x9) k) /\ (patL0 f0 x8 x9).length <= 400 := by
 have hN : F35_n n0 (elV tyR f0) n2 (elV tyT f2) n4 (elV tyF f4) n6 (elV tyC f6) x8 x9 <= 400 := by unfold F35_n F35_e; exact patE_len
 have e1 : F35_n n0 (elV tyR f0) n2 (elV tyT f2) n4 (elV tyF f4) n6 (elV tyC f6) x8 x9 = (patL0 f0 x8 x9).length := by
  unfold F35_n; rw [h]; rfl
 have e2 : ∀ k, F35_f n0 (elV tyR f0) n2 (elV tyT f2) n4 (elV tyF f4) n6 (elV tyC f6) x8 x9 k = boxF (sqP x9) (patL0 f0 x8 x9) k := fun k => by
  unfold F35_f; rw [h]; rfl
 unfold F35_e at h
 rw [elV2, elV2, elV2, elV2] at h
 obtain ⟨g1, g2⟩ := patE_0 h
 obtain ⟨_, hr⟩ := z35 n0 f0 n2 f2 n4 f4 n6 f6 x8 x9 g1
 have hb := bad_in g2
 exact ⟨hr, grid_in hr hb.1 hb.2, e1, e2, by omega⟩
theorem mee22 {a b c d : Int} (h : F22_1 n0 (elV tyR f0) n2 (elV tyT f2) n4 (elV tyF f4) n6 (elV tyC f6) x8 a b c d = 0) : F22_0 n0 (elV tyR f0) n2 (elV tyT f2) n4 (elV tyF f4) n6 (elV tyC f6) x8 a b c d = F61 (npt f0 x8) (ptf f0 x8) (wid f0 x8) a b c d := by
 unfold F22_1 at h
 unfold F22_0
 generalize F44 _ _ _ _ _ _ _ _ _ _ = E at *
 cases hE : E != 0 with
 | true => rw [hE] at h; have h1 : E = 0 := h; rw [h1] at hE; cases hE
 | false =>
   rw [hE, cond_false] at h
   cases hF : F53_0 a b c d with
   | true => rw [hF] at h; cases h
   | false => rfl
theorem on25 {x y : Int} (h : F25_1 n0 (elV tyR f0) n2 (elV tyT f2) n4 (elV tyF f4) n6 (elV tyC f6) x8 x y = 0) : F25_0 n0 (elV tyR f0) n2 (elV tyT f2) n4 (elV tyF f4) n6 (elV tyC f6) x8 x y = F74 (npt f0 x8) (ptf f0 x8) (wid f0 x8) x y /\ (-100000 <= x /\ x <= 100000) /\ (-100000 <= y /\ y <= 100000) := by
 unfold F25_1 at h
 unfold F25_0
 rw [wild_placed] at h ⊢
 generalize F44 _ _ _ _ _ _ _ _ _ _ = E at *
 cases hE : E != 0 with
 | true => rw [hE] at h; have h1 : E = 0 := h; rw [h1] at hE; cases hE
 | false =>
   rw [hE, cond_false] at h
   cases hF : F51 2 (elV tp1 (secF [vi x, vi y] 0 1)) with
   | false => rw [hF] at h; cases h
   | true => exact ⟨rfl, pt_in hF⟩
end
def ins12 (l : List V) (x y : Int) : Bool := bif bif bif decide (jv0 l <= x) then decide (x <= jv2 l) else false then decide (jv1 l <= y) else false then decide (y <= jv3 l) else false
theorem ins_v {a b c d x y : Int} : ins12 (v4 a b c d) x y = true ↔ (a <= x /\ x <= c) /\ b <= y /\ y <= d := by
 show (bif bif bif decide (a <= x) then decide (x <= c) else false then decide (b <= y) else false then decide (y <= d) else false) = true ↔ _
 by_cases h1 : a <= x <;> by_cases h2 : x <= c <;> by_cases h3 : b <= y <;> by_cases h4 : y <= d <;> simp [h1, h2, h3, h4]
end
end Go.Dx
namespace Go.Dx
open Go.IntKind (i64 u64 u8)
open Go.Sx Go.Proofs
noncomputable section
def ctB33 : CTab := (19, .con C19) :: (35, .conL 4 29 C35 okl35) :: ctB17
theorem tabB33 : TabOk Tryz.prog eqs its ctB33 := .con ok19 (.conL ok35 (tabB17))
attribute [local irreducible] F35_e F35_n F35_f F22_0 F22_1 F25_0 F25_1
inductive S12 where
 | L0 (ia0 : Int) (ba1 : Bool)
def inv12 (n0 : Nat) (f0 : FnV) (n2 : Nat) (f2 : FnV) (n4 : Nat) (f4 : FnV) (n6 : Nat) (f6 : FnV) (x8 x9 x10 x11 x12 x13 x14 x15 : Int) : S12 -> Env × List O × Option Ex
 | .L0 ia0 ba1 => ([(12, vi ia0), (11, V.bool ba1), (9, V.bool (F25_0 n0 (elV tyR f0) n2 (elV tyT f2) n4 (elV tyF f4) n6 (elV tyC f6) x8 x9 x10)), (7, V.gs 0 (F35_n n0 (elV tyR f0) n2 (elV tyT f2) n4 (elV tyF f4) n6 (elV tyC f6) x8 x15)), (4, V.pl 1 0), (3, V.pl 2 0), (2, vi x15)], [O.gl 4 (F35_n n0 (elV tyR f0) n2 (elV tyT f2) n4 (elV tyF f4) n6 (elV tyC f6) x8 x15) (elV ty4 (F35_f n0 (elV tyR f0) n2 (elV tyT f2) n4 (elV tyF f4) n6 (elV tyC f6) x8 x15)) 29, O.cells [vi x8, vi x9, vi x10, vi x11, vi x12, vi x13, vi x14] 31, O.cells [V.sl n0 (elV tyR f0), V.sl n2 (elV tyT f2), V.sl n4 (elV tyF f4), V.sl n6 (elV tyC f6)] 27], none)
def id12 : S12 -> JJ
 | .L0 ia0 ba1 => (0, [])
def rl12 (n0 : Nat) (f0 : FnV) (n2 : Nat) (f2 : FnV) (n4 : Nat) (f4 : FnV) (n6 : Nat) (f6 : FnV) (x8 x9 x10 x11 x12 x13 x14 x15 : Int) : T (Leaf JJ) := runL JJ ctB33 u0 s12 [scV n0 f0 n2 f2 n4 f4 n6 f6, V.agg [vi x8, vi x9, vi x10, vi x11, vi x12, vi x13, vi x14], vi x15]
def lp12_0 (n0 : Nat) (f0 : FnV) (n2 : Nat) (f2 : FnV) (n4 : Nat) (f4 : FnV) (n6 : Nat) (f6 : FnV) (x8 x9 x10 x11 x12 x13 x14 x15 : Int) (cx : List Cx) : Lp JJ := lpT (atT (rl12 n0 f0 n2 f2 n4 f4 n6 f6 x8 x9 x10 x11 x12 x13 x14 x15) [false])
def lp12 (n0 : Nat) (f0 : FnV) (n2 : Nat) (f2 : FnV) (n4 : Nat) (f4 : FnV) (n6 : Nat) (f6 : FnV) (x8 x9 x10 x11 x12 x13 x14 x15 : Int) : JJ -> Lp JJ
 | (0, cx) => lp12_0 n0 f0 n2 f2 n4 f4 n6 f6 x8 x9 x10 x11 x12 x13 x14 x15 cx
 | (_, cx) => lp12_0 n0 f0 n2 f2 n4 f4 n6 f6 x8 x9 x10 x11 x12 x13 x14 x15 cx
def D12 (n0 : Nat) (f0 : FnV) (n2 : Nat) (f2 : FnV) (n4 : Nat) (f4 : FnV) (n6 : Nat) (f6 : FnV) (x8 x9 x10 x11 x12 x13 x14 x15 : Int) : LD JJ S12 := ⟨id12, lp12 n0 f0 n2 f2 n4 f4 n6 f6 x8 x9 x10 x11 x12 x13 x14 x15, inv12 n0 f0 n2 f2 n4 f4 n6 f6 x8 x9 x10 x11 x12 x13 x14 x15⟩
def st12 (n0 : Nat) (f0 : FnV) (n2 : Nat) (f2 : FnV) (n4 : Nat) (f4 : FnV) (n6 : Nat) (f6 : FnV) (x8 x9 x10 x11 x12 x13 x14 x15 : Int) : S12 -> RT S12
 | .L0 ia0 ba1 => .br (decide (ia0 < (↑(F35_n n0 (elV tyR f0) n2 (elV tyT f2) n4 (elV tyF f4) n6 (elV tyC f6) x8 x15) : Int))) (.ob (decide (0 <= ia0 /\ ia0 < (↑(F35_n n0 (elV tyR f0) n2 (elV tyT f2) n4 (elV tyF f4) n6 (elV tyC f6) x8 x15) : Int) /\ F35_n n0 (elV tyR f0) n2 (elV tyT f2) n4 (elV tyF f4) n6 (elV tyC f6) x8 x15 <= F35_n n0 (elV tyR f0) n2 (elV tyT f2) n4 (elV tyF f4) n6 (elV tyC f6) x8 x15)) (.ob (decide (ia0.toNat < F35_n n0 (elV tyR f0) n2 (elV tyT f2) n4 (elV tyF f4) n6 (elV tyC f6) x8 x15)) (.obi (.obi (.obi (.obi (.obi (.obi (.obi (.obi (.obi (.obi (.obi (.obi (.obi (.obi (.obi (.obi (.obi (.obi (.obi (.obi (.obi (.obi (.obi (.obi (.obi (.obi (.obp ((∀ (i : Nat), i < n0 -> (sv (hdV (f0 i))).size <= (9223372036854775807 : Nat)) /\ ∀ (i : Nat), i < n6 -> (sv (hdV (f6 i))).size <= (9223372036854775807 : Nat)) (.obt (.obi (.obi (.obi (.obi (.obi (.obi (.obi (.obi (.obi (.obi (.obi (.obi (.obi (.obi (.obi (.obi (.br (bif bif bif F22_1 n0 (elV tyR f0) n2 (elV tyT f2) n4 (elV tyF f4) n6 (elV tyC f6) x8 (jv0 (F35_f n0 (elV tyR f0) n2 (elV tyT f2) n4 (elV tyF f4) n6 (elV tyC f6) x8 x15 ia0.toNat)) (jv1 (F35_f n0 (elV tyR f0) n2 (elV tyT f2) n4 (elV tyF f4) n6 (elV tyC f6) x8 x15 ia0.toNat)) (jv2 (F35_f n0 (elV tyR f0) n2 (elV tyT f2) n4 (elV tyF f4) n6 (elV tyC f6) x8 x15 ia0.toNat)) (jv3 (F35_f n0 (elV tyR f0) n2 (elV tyT f2) n4 (elV tyF f4) n6 (elV tyC f6) x8 x15 ia0.toNat)) == 0 then F22_0 n0 (elV tyR f0) n2 (elV tyT f2) n4 (elV tyF f4) n6 (elV tyC f6) x8 (jv0 (F35_f n0 (elV tyR f0) n2 (elV tyT f2) n4 (elV tyF f4) n6 (elV tyC f6) x8 x15 ia0.toNat)) (jv1 (F35_f n0 (elV tyR f0) n2 (elV tyT f2) n4 (elV tyF f4) n6 (elV tyC f6) x8 x15 ia0.toNat)) (jv2 (F35_f n0 (elV tyR f0) n2 (elV tyT f2) n4 (elV tyF f4) n6 (elV tyC f6) x8 x15 ia0.toNat)) (jv3 (F35_f n0 (elV tyR f0) n2 (elV tyT f2) n4 (elV tyF f4) n6 (elV tyC f6) x8 x15 ia0.toNat)) == 0 else false then true else i64.wrap (jv2 (F35_f n0 (elV tyR f0) n2 (elV tyT f2) n4 (elV tyF f4) n6 (elV tyC f6) x8 x15 ia0.toNat) - jv0 (F35_f n0 (elV tyR f0) n2 (elV tyT f2) n4 (elV tyF f4) n6 (elV tyC f6) x8 x15 ia0.toNat)) != x15 then true else i64.wrap (jv3 (F35_f n0 (elV tyR f0) n2 (elV tyT f2) n4 (elV tyF f4) n6 (elV tyC f6) x8 x15 ia0.toNat) - jv1 (F35_f n0 (elV tyR f0) n2 (elV tyT f2) n4 (elV tyF f4) n6 (elV tyC f6) x8 x15 ia0.toNat)) != x15) (.ret (V.kb false)) (.obi (.obi (.obi (.obj (decide (0 < ia0)) (decide (0 <= i64.wrap (ia0 - 1) /\ i64.wrap (ia0 - 1) < (↑(F35_n n0 (elV tyR f0) n2 (elV tyT f2) n4 (elV tyF f4) n6 (elV tyC f6) x8 x15) : Int) /\ F35_n n0 (elV tyR f0) n2 (elV tyT f2) n4 (elV tyF f4) n6 (elV tyC f6) x8 x15 <= F35_n n0 (elV tyR f0) n2 (elV tyT f2) n4 (elV tyF f4) n6 (elV tyC f6) x8 x15)) (.obi (.obi (.obj (decide (0 < ia0)) (decide ((i64.wrap (ia0 - 1)).toNat < F35_n n0 (elV tyR f0) n2 (elV tyT f2) n4 (elV tyF f4) n6 (elV tyC f6) x8 x15)) (.obi (.obi (.obi (.obi (.obi (.obi (.obi (.obj (decide (0 < ia0) && !decide (jv1 (F35_f n0 (elV tyR f0) n2 (elV tyT f2) n4 (elV tyF f4) n6 (elV tyC f6) x8 x15 ia0.toNat) < jv1 (F35_f n0 (elV tyR f0) n2 (elV tyT f2) n4 (elV tyF f4) n6 (elV tyC f6) x8 x15 (i64.wrap (ia0 - 1)).toNat))) (decide (0 <= i64.wrap (ia0 - 1) /\ i64.wrap (ia0 - 1) < (↑(F35_n n0 (elV tyR f0) n2 (elV tyT f2) n4 (elV tyF f4) n6 (elV tyC f6) x8 x15) : Int) /\ F35_n n0 (elV tyR f0) n2 (elV tyT f2) n4 (elV tyF f4) n6 (elV tyC f6) x8 x15 <= F35_n n0 (elV tyR f0) n2 (elV tyT f2) n4 (elV tyF f4) n6 (elV tyC f6) x8 x15)) (.obi (.obi (.obj (decide (0 < ia0) && !decide (jv1 (F35_f n0 (elV tyR f0) n2 (elV tyT f2) n4 (elV tyF f4) n6 (elV tyC f6) x8 x15 ia0.toNat) < jv1 (F35_f n0 (elV tyR f0) n2 (elV tyT f2) n4 (elV tyF f4) n6 (elV tyC f6) x8 x15 (i64.wrap (ia0 - 1)).toNat))) (decide ((i64.wrap (ia0 - 1)).toNat < F35_n n0 (elV tyR f0) n2 (elV tyT f2) n4 (elV tyF f4) n6 (elV tyC f6) x8 x15)) (.obi (.obi (.obi (.obi (.obi (.obi (.obi (.obj (decide (0 < ia0) && !decide (jv1 (F35_f n0 (elV tyR f0) n2 (elV tyT f2) n4 (elV tyF f4) n6 (elV tyC f6) x8 x15 ia0.toNat) < jv1 (F35_f n0 (elV tyR f0) n2 (elV tyT f2) n4 (elV tyF f4) n6 (elV tyC f6) x8 x15 (i64.wrap (ia0 - 1)).toNat)) && jv1 (F35_f n0 (elV tyR f0) n2 (elV tyT f2) n4 (elV tyF f4) n6 (elV tyC f6) x8 x15 (i64.wrap (ia0 - 1)).toNat) == jv1 (F35_f n0 (elV tyR f0) n2 (elV tyT f2) n4 (elV tyF f4) n6 (elV tyC f6) x8 x15 ia0.toNat)) (decide (0 <= i64.wrap (ia0 - 1) /\ i64.wrap (ia0 - 1) < (↑(F35_n n0 (elV tyR f0) n2 (elV tyT f2) n4 (elV tyF f4) n6 (elV tyC f6) x8 x15) : Int) /\ F35_n n0 (elV tyR f0) n2 (elV tyT f2) n4 (elV tyF f4) n6 (elV tyC f6) x8 x15 <= F35_n n0 (elV tyR f0) n2 (elV tyT f2) n4 (elV tyF f4) n6 (elV tyC f6) x8 x15)) (.obi (.obi (.obj (decide (0 < ia0) && !decide (jv1 (F35_f n0 (elV tyR f0) n2 (elV tyT f2) n4 (elV tyF f4) n6 (elV tyC f6) x8 x15 ia0.toNat) < jv1 (F35_f n0 (elV tyR f0) n2 (elV tyT f2) n4 (elV tyF f4) n6 (elV tyC f6) x8 x15 (i64.wrap (ia0 - 1)).toNat)) && jv1 (F35_f n0 (elV tyR f0) n2 (elV tyT f2) n4 (elV tyF f4) n6 (elV tyC f6) x8 x15 (i64.wrap (ia0 - 1)).toNat) == jv1 (F35_f n0 (elV tyR f0) n2 (elV tyT f2) n4 (elV tyF f4) n6 (elV tyC f6) x8 x15 ia0.toNat)) (decide ((i64.wrap (ia0 - 1)).toNat < F35_n n0 (elV tyR f0) n2 (elV tyT f2) n4 (elV tyF f4) n6 (elV tyC f6) x8 x15)) (.obi (.obi (.obi (.obi (.obi (.obi (.obi (.obi (.br (bif decide (0 < ia0) then bif decide (jv1 (F35_f n0 (elV tyR f0) n2 (elV tyT f2) n4 (elV tyF f4) n6 (elV tyC f6) x8 x15 ia0.toNat) < jv1 (F35_f n0 (elV tyR f0) n2 (elV tyT f2) n4 (elV tyF f4) n6 (elV tyC f6) x8 x15 (i64.wrap (ia0 - 1)).toNat)) then true else bif jv1 (F35_f n0 (elV tyR f0) n2 (elV tyT f2) n4 (elV tyF f4) n6 (elV tyC f6) x8 x15 (i64.wrap (ia0 - 1)).toNat) == jv1 (F35_f n0 (elV tyR f0) n2 (elV tyT f2) n4 (elV tyF f4) n6 (elV tyC f6) x8 x15 ia0.toNat) then decide (jv0 (F35_f n0 (elV tyR f0) n2 (elV tyT f2) n4 (elV tyF f4) n6 (elV tyC f6) x8 x15 ia0.toNat) <= jv0 (F35_f n0 (elV tyR f0) n2 (elV tyT f2) n4 (elV tyF f4) n6 (elV tyC f6) x8 x15 (i64.wrap (ia0 - 1)).toNat)) else false else false) (.ret (V.kb false)) (.next (iR 0 3 []) (S12.L0 (i64.wrap (ia0 + 1)) (bif ba1 then true else bif bif bif decide (jv0 (F35_f n0 (elV tyR f0) n2 (elV tyT f2) n4 (elV tyF f4) n6 (elV tyC f6) x8 x15 ia0.toNat) <= x9) then decide (x9 <= jv2 (F35_f n0 (elV tyR f0) n2 (elV tyT f2) n4 (elV tyF f4) n6 (elV tyC f6) x8 x15 ia0.toNat)) else false then decide (jv1 (F35_f n0 (elV tyR f0) n2 (elV tyT f2) n4 (elV tyF f4) n6 (elV tyC f6) x8 x15 ia0.toNat) <= x10) else false then decide (x10 <= jv3 (F35_f n0 (elV tyR f0) n2 (elV tyT f2) n4 (elV tyF f4) n6 (elV tyC f6) x8 x15 ia0.toNat)) else false)) [⟨0, ty4, F35_n n0 (elV tyR f0) n2 (elV tyT f2) n4 (elV tyF f4) n6 (elV tyC f6) x8 x15, elV ty4 (F35_f n0 (elV tyR f0) n2 (elV tyT f2) n4 (elV tyF f4) n6 (elV tyC f6) x8 x15), vf_view rfl _ _⟩])))))))))))))))))))))))))))))))))))))))))))))))))))))))))))))))))))))))))))))))))))))) (.obi (.obi (.br (bif ba1 then true else !F25_0 n0 (elV tyR f0) n2 (elV tyT f2) n4 (elV tyF f4) n6 (elV tyC f6) x8 x9 x10) (.obc (.obt (.ret (V.bool true)))) (.ret (V.kb false)))))
def m12 (n0 : Nat) (f0 : FnV) (n2 : Nat) (f2 : FnV) (n4 : Nat) (f4 : FnV) (n6 : Nat) (f6 : FnV) (x8 x9 x10 x11 x12 x13 x14 x15 : Int) : RT S12 := .obp ((∀ (i : Nat), i < n0 -> (sv (hdV (f0 i))).size <= (9223372036854775807 : Nat)) /\ ∀ (i : Nat), i < n6 -> (sv (hdV (f6 i))).size <= (9223372036854775807 : Nat)) (.obp ((∀ (i : Nat), i < n0 -> (sv (hdV (f0 i))).size <= (9223372036854775807 : Nat)) /\ ∀ (i : Nat), i < n6 -> (sv (hdV (f6 i))).size <= (9223372036854775807 : Nat)) (.obt (.obi (.obi (.br (bif F35_e n0 (elV tyR f0) n2 (elV tyT f2) n4 (elV tyF f4) n6 (elV tyC f6) x8 x15 != 0 then true else F25_1 n0 (elV tyR f0) n2 (elV tyT f2) n4 (elV tyF f4) n6 (elV tyC f6) x8 x9 x10 != 0) (.obc (.obt (.ret (V.bool true)))) (.enter [some (some 2), some (some 1), some (some 0)] (S12.L0 (0) (false)) [⟨0, ty4, F35_n n0 (elV tyR f0) n2 (elV tyT f2) n4 (elV tyF f4) n6 (elV tyC f6) x8 x15, elV ty4 (F35_f n0 (elV tyR f0) n2 (elV tyT f2) n4 (elV tyF f4) n6 (elV tyC f6) x8 x15), vf_view rfl _ _⟩]))))))
theorem run12 (n0 : Nat) (f0 : FnV) (n2 : Nat) (f2 : FnV) (n4 : Nat) (f4 : FnV) (n6 : Nat) (f6 : FnV) (x8 x9 x10 x11 x12 x13 x14 x15 : Int) : Fits ctB33 u0 (D12 n0 f0 n2 f2 n4 f4 n6 f6 x8 x9 x10 x11 x12 x13 x14 x15) (rl12 n0 f0 n2 f2 n4 f4 n6 f6 x8 x9 x10 x11 x12 x13 x14 x15) (m12 n0 f0 n2 f2 n4 f4 n6 f6 x8 x9 x10 x11 x12 x13 x14 x15) (st12 n0 f0 n2 f2 n4 f4 n6 f6 x8 x9 x10 x11 x12 x13 x14 x15) := ⟨⟨by kernel_rfl, by kernel_rfl⟩, fun s => by cases s <;> exact ⟨by kernel_rfl, by kernel_rfl⟩⟩
theorem evl12 (n0 : Nat) (f0 : FnV) (n2 : Nat) (f2 : FnV) (n4 : Nat) (f4 : FnV) (n6 : Nat) (f6 : FnV) (x8 x9 x10 x11 x12 x13 x14 x15 : Int) (hp : SzOk n0 f0 /\ SzOk n6 f6) : evR (Ev (st12 n0 f0 n2 f2 n4 f4 n6 f6 x8 x9 x10 x11 x12 x13 x14 x15)) (m12 n0 f0 n2 f2 n4 f4 n6 f6 x8 x9 x10 x11 x12 x13 x14 x15) (.bool true) := by
 refine evObp hp (evObp hp (evObt (evObi (evObi (evBr (fun h => evObc (evObt (evRet rfl))) (fun h => evEnter ?_))))))
 have hh : F35_e n0 (elV tyR f0) n2 (elV tyT f2) n4 (elV tyF f4) n6 (elV tyC f6) x8 x15 = 0 /\ F25_1 n0 (elV tyR f0) n2 (elV tyT f2) n4 (elV tyF f4) n6 (elV tyC f6) x8 x9 x10 = 0 := by
  have h' : (bif F35_e n0 (elV tyR f0) n2 (elV tyT f2) n4 (elV tyF f4) n6 (elV tyC f6) x8 x15 != 0 then true else F25_1 n0 (elV tyR f0) n2 (elV tyT f2) n4 (elV tyF f4) n6 (elV tyC f6) x8 x9 x10 != 0) = false := h
  generalize F35_e _ _ _ _ _ _ _ _ _ _ = u at h' ⊢
  generalize F25_1 _ _ _ _ _ _ _ _ _ _ _ = v at h' ⊢
  cases hu : u != 0 with
  | true => rw [hu] at h'; cases h'
  | false => rw [hu] at h'; exact ⟨by simpa using hu, by simpa using h'⟩
 obtain ⟨hr, hg, e1, e2, e3⟩ := l12 hh.1
 have s1 := hg.s1
 have s2 := hg.s2
 have o25 := on25 hh.2
 have key := up_ind (n := F35_n n0 (elV tyR f0) n2 (elV tyT f2) n4 (elV tyF f4) n6 (elV tyC f6) x8 x15) (P := fun k => ∀ b : Bool, (b = false -> ∀ j, j < k -> ins12 (F35_f n0 (elV tyR f0) n2 (elV tyT f2) n4 (elV tyF f4) n6 (elV tyC f6) x8 x15 j) x9 x10 = false) -> Ev (st12 n0 f0 n2 f2 n4 f4 n6 f6 x8 x9 x10 x11 x12 x13 x14 x15) (.L0 (k : Int) b) (.bool true)) fun k hk ih b hb => by
  by_cases hlt : k < F35_n n0 (elV tyR f0) n2 (elV tyT f2) n4 (elV tyF f4) n6 (elV tyC f6) x8 x15
  ·have o1 : (0 : Int) <= (k : Int) /\ (k : Int) < ((F35_n n0 (elV tyR f0) n2 (elV tyT f2) n4 (elV tyF f4) n6 (elV tyC f6) x8 x15 : Nat) : Int) /\ F35_n n0 (elV tyR f0) n2 (elV tyT f2) n4 (elV tyF f4) n6 (elV tyC f6) x8 x15 <= F35_n n0 (elV tyR f0) n2 (elV tyT f2) n4 (elV tyF f4) n6 (elV tyC f6) x8 x15 := ⟨by omega, by omega, Nat.le_refl _⟩
   have o2 : (k : Int).toNat < F35_n n0 (elV tyR f0) n2 (elV tyT f2) n4 (elV tyF f4) n6 (elV tyC f6) x8 x15 := by omega
   have hkl : k < (patL0 f0 x8 x15).length := by omega
   have hp1 : (patL0 f0 x8 x15)[k]? = some (patL0 f0 x8 x15)[k] := List.getElem?_eq_getElem hkl
   have hx : F35_f n0 (elV tyR f0) n2 (elV tyT f2) n4 (elV tyF f4) n6 (elV tyC f6) x8 x15 (k : Int).toNat = v4 ((patL0 f0 x8 x15)[k].1 * x15) ((patL0 f0 x8 x15)[k].2 * x15) ((patL0 f0 x8 x15)[k].1 * x15 + x15) ((patL0 f0 x8 x15)[k].2 * x15 + x15) := by rw [Int.toNat_natCast]; exact (e2 k).trans (sq_box hg hp1)
   have hm := (sq_mem hg).1 (List.mem_of_getElem? hp1)
   obtain ⟨p1, p2, p3⟩ := xs_in hg hm.2.1.1 hm.2.1.2
   obtain ⟨r1, r2, r3⟩ := ys_in hg hm.1.1 hm.1.2
   have hf := (sq_hit hr hg hm.1 hm.2.1).1 hm.2.2
   have hw : 0 < k -> i64.wrap ((k : Int) - 1) = ((k - 1 : Nat) : Int) := fun h0 => by rw [wrapI (by omega) (by omega)]; omega
   have oj : decide (0 < (k : Int)) = true -> 0 <= i64.wrap ((k : Int) - 1) /\ i64.wrap ((k : Int) - 1) < ((F35_n n0 (elV tyR f0) n2 (elV tyT f2) n4 (elV tyF f4) n6 (elV tyC f6) x8 x15 : Nat) : Int) /\ F35_n n0 (elV tyR f0) n2 (elV tyT f2) n4 (elV tyF f4) n6 (elV tyC f6) x8 x15 <= F35_n n0 (elV tyR f0) n2 (elV tyT f2) n4 (elV tyF f4) n6 (elV tyC f6) x8 x15 := fun hc => by
    have h0 := of_decide_eq_true hc
    rw [hw (by omega)]; exact ⟨by omega, by omega, Nat.le_refl _⟩
   have oj' : decide (0 < (k : Int)) = true -> (i64.wrap ((k : Int) - 1)).toNat < F35_n n0 (elV tyR f0) n2 (elV tyT f2) n4 (elV tyF f4) n6 (elV tyC f6) x8 x15 := fun hc => by
    have h0 := of_decide_eq_true hc
    rw [hw (by omega)]; omega
   have and1 : ∀ {a b : Bool}, (a && b) = true -> a = true := fun h => by rw [Bool.and_eq_true] at h; exact h.1
   refine Ev.of rfl (evBrT (dqt o1.2.1) (evOb (dqt o1) (evOb (dqt o2) ?_)))
   (repeat' (first | refine evObi ?_ | refine evObc ?_ | refine evObt ?_))
   refine evObp hp ?_
   (repeat' (first | refine evObi ?_ | refine evObc ?_ | refine evObt ?_))
   refine evBrF ?_ ?_
   ·rw [hx]
    have : (bif F22_1 n0 (elV tyR f0) n2 (elV tyT f2) n4 (elV tyF f4) n6 (elV tyC f6) x8 ((patL0 f0 x8 x15)[k].1 * x15) ((patL0 f0 x8 x15)[k].2 * x15) ((patL0 f0 x8 x15)[k].1 * x15 + x15) ((patL0 f0 x8 x15)[k].2 * x15 + x15) == 0 then F22_0 n0 (elV tyR f0) n2 (elV tyT f2) n4 (elV tyF f4) n6 (elV tyC f6) x8 ((patL0 f0 x8 x15)[k].1 * x15) ((patL0 f0 x8 x15)[k].2 * x15) ((patL0 f0 x8 x15)[k].1 * x15 + x15) ((patL0 f0 x8 x15)[k].2 * x15 + x15) == 0 else false) = false := by
     cases hz : F22_1 n0 (elV tyR f0) n2 (elV tyT f2) n4 (elV tyF f4) n6 (elV tyC f6) x8 ((patL0 f0 x8 x15)[k].1 * x15) ((patL0 f0 x8 x15)[k].2 * x15) ((patL0 f0 x8 x15)[k].1 * x15 + x15) ((patL0 f0 x8 x15)[k].2 * x15 + x15) == 0 with
     | false => rfl
     | true =>
       rw [cond_true, mee22 (by simpa using hz)]
       simpa using hf
    have q : ∀ a : Int, i64.wrap (a + x15 - a) = x15 := fun a => by rw [show a + x15 - a = x15 by omega]; exact wrapI (by omega) (by omega)
    show (bif bif bif F22_1 n0 (elV tyR f0) n2 (elV tyT f2) n4 (elV tyF f4) n6 (elV tyC f6) x8 ((patL0 f0 x8 x15)[k].1 * x15) ((patL0 f0 x8 x15)[k].2 * x15) (((patL0 f0 x8 x15)[k].1 * x15) + x15) (((patL0 f0 x8 x15)[k].2 * x15) + x15) == 0 then F22_0 n0 (elV tyR f0) n2 (elV tyT f2) n4 (elV tyF f4) n6 (elV tyC f6) x8 ((patL0 f0 x8 x15)[k].1 * x15) ((patL0 f0 x8 x15)[k].2 * x15) (((patL0 f0 x8 x15)[k].1 * x15) + x15) (((patL0 f0 x8 x15)[k].2 * x15) + x15) == 0 else false then true else i64.wrap (((patL0 f0 x8 x15)[k].1 * x15) + x15 - ((patL0 f0 x8 x15)[k].1 * x15)) != x15 then true else i64.wrap (((patL0 f0 x8 x15)[k].2 * x15) + x15 - ((patL0 f0 x8 x15)[k].2 * x15)) != x15) = false
    rw [this, q, q, bne_self_eq_false]; rfl
   ·(repeat' (first | refine evObi ?_ | refine evObc ?_ | refine evObt ?_ | refine evObj (fun _ => dqt (by omega)) ?_ | refine evObj (fun hc => dqt (oj hc)) ?_ | refine evObj (fun hc => dqt (oj' hc)) ?_ | refine evObj (fun hc => dqt (oj (and1 hc))) ?_ | refine evObj (fun hc => dqt (oj' (and1 hc))) ?_ | refine evObj (fun hc => dqt (oj (and1 (and1 hc)))) ?_ | refine evObj (fun hc => dqt (oj' (and1 (and1 hc)))) ?_))
    refine evBrF ?_ (evNext ?_)
    ·by_cases h0 : 0 < k
     ·have hk1 : k - 1 < (patL0 f0 x8 x15).length := by omega
      have hp0 : (patL0 f0 x8 x15)[k - 1]? = some (patL0 f0 x8 x15)[k - 1] := List.getElem?_eq_getElem hk1
      have hy : F35_f n0 (elV tyR f0) n2 (elV tyT f2) n4 (elV tyF f4) n6 (elV tyC f6) x8 x15 (i64.wrap ((k : Int) - 1)).toNat = v4 ((patL0 f0 x8 x15)[k - 1].1 * x15) ((patL0 f0 x8 x15)[k - 1].2 * x15) ((patL0 f0 x8 x15)[k - 1].1 * x15 + x15) ((patL0 f0 x8 x15)[k - 1].2 * x15 + x15) := by rw [hw h0, Int.toNat_natCast]; exact (e2 (k - 1)).trans (sq_box hg hp0)
      have hpw := sq_pw hg hp0 (by rw [show k - 1 + 1 = k by omega]; exact hp1)
      rw [hx, hy]
      generalize (patL0 f0 x8 x15)[k].1 * x15 = A at *
      generalize (patL0 f0 x8 x15)[k].2 * x15 = B at *
      generalize (patL0 f0 x8 x15)[k - 1].1 * x15 = C at *
      generalize (patL0 f0 x8 x15)[k - 1].2 * x15 = D at *
      show (bif decide (0 < (k : Int)) then bif decide (B < D) then true else bif D == B then decide (A <= C) else false else false) = false
      rw [dqt (show (0 : Int) < (k : Int) by omega), cond_true, dqf (show ¬ B < D by omega), cond_false]
      by_cases hBD : D = B
      ·rw [dqf (show ¬ A <= C by omega)]
       cases D == B <;> rfl
      ·rw [show (D == B) = false from by simpa using hBD]; rfl
     ·rw [dqf (show ¬ (0 : Int) < (k : Int) by omega)]; rfl
    ·rw [wrapS hlt (by omega)]
     refine ih hlt _ fun hb' j hj => ?_
     have hb2 : (bif b then true else ins12 (F35_f n0 (elV tyR f0) n2 (elV tyT f2) n4 (elV tyF f4) n6 (elV tyC f6) x8 x15 (k : Int).toNat) x9 x10) = false := hb'
     cases hbb : b with
     | true => rw [hbb] at hb2; cases hb2
     | false =>
       rw [hbb, cond_false, Int.toNat_natCast] at hb2
       by_cases hjk : j = k
       ·rw [hjk]; exact hb2
       ·exact hb hbb j (by omega)
  ·have ek : k = F35_n n0 (elV tyR f0) n2 (elV tyT f2) n4 (elV tyF f4) n6 (elV tyC f6) x8 x15 := by omega
   refine Ev.of rfl (evBrF (dqf fun h => hlt (Int.ofNat_lt.1 h)) (evObi (evObi (evBr (fun _ => evObc (evObt (evRet rfl))) (fun h => ?_)))))
   exfalso
   have h' : (bif b then true else !F25_0 n0 (elV tyR f0) n2 (elV tyT f2) n4 (elV tyF f4) n6 (elV tyC f6) x8 x9 x10) = false := h
   cases hbb : b with
   | true => rw [hbb] at h'; cases h'
   | false =>
     rw [hbb, cond_false, o25.1, Bool.not_eq_false'] at h'
     obtain ⟨i, hi, ho⟩ := (F74_v hr (by unfold pl; omega) (by unfold pl; omega)).1 h'
     obtain ⟨j, p, hj, hx, hy⟩ := cover hr hg hi ho
     have hjl := (List.getElem?_eq_some_iff.1 hj).1
     have := hb hbb j (by omega)
     rw [e2 j, sq_box hg hj, ins_v.2 ⟨hx, hy⟩] at this
     cases this
 exact key 0 (Nat.zero_le _) false (fun _ j hj => absurd hj (by omega))
def tys12 : List Ty := [.agg [.sl tyR, .sl tyT, .sl tyF, .sl tyC], .agg [.int .i64, .int .i64, .int .i64, .int .i64, .int .i64, .int .i64, .int .i64], .int .i64]
theorem ok12 : (vP (lawC tys12)).Ok Tryz.prog 12 := mkE tabB33 Tryz.func12 (by kernel_rfl) fun ds hp => rfs (run12 ..) (evl12 _ _ _ _ _ _ _ _ _ _ _ _ _ _ _ _ (by have h : szTys [.agg [.sl tyR, .sl tyT, .sl tyF, .sl tyC], .agg [.int .i64, .int .i64, .int .i64, .int .i64, .int .i64, .int .i64, .int .i64], .int .i64] _ := hp; exact ⟨fun i hi => (h.1.1 i hi).1, fun i hi => (h.1.2.2.2.1 i hi).1⟩))
end
end Go.Dx
