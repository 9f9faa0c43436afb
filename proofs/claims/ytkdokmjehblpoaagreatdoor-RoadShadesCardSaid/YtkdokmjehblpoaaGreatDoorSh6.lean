/- Part 6 of a proof. No conditions. -/
import Derived.Test.YtkdokmjehblpoaaGreatDoorSh5
set_option maxRecDepth 100000
set_option linter.unusedVariables false
set_option linter.unusedSimpArgs false
namespace Go.Dx
open Go.Sx
noncomputable section
theorem tree_in {x y a z w : Int} (h : treeE x y a z w = 0) : (-100000 <= x /\ x <= 100000) /\ (-100000 <= y /\ y <= 100000) /\ (1 <= a /\ a <= 20000) /\ 0 <= z /\ z < w /\ w <= 1000 := by
 unfold treeE at h
 cases hp : ptOk x y with
 | false => rw [hp] at h; cases h
 | true =>
   rw [hp] at h
   simp only [Bool.not_true, Bool.not_false, cond_true] at h
   cases hf : F71_0 a 1 20000 with
   | false => rw [hf] at h; cases h
   | true =>
     rw [hf] at h
     have ha := from_in hf
     have hq := pt_in hp
     by_cases h1 : z < 0
     ·simp [h1] at h
     ·by_cases h2 : w <= z
      ·simp [h1, h2] at h
      ·by_cases h3 : 1000 < w
       ·simp [h1, h2, h3] at h
       ·exact ⟨hq.1, hq.2, ha, by omega, by omega, by omega⟩
theorem col_in {x y h dx dy : Int} (hc : colE x y h dx dy = 0) : (-100000 <= x /\ x <= 100000) /\ (-100000 <= y /\ y <= 100000) /\ (1 <= h /\ h <= 200) := by
 have hc' : (bif bif bif bif !ptOk x y then true else !F71_0 h 1 200 then true else !F71_0 dx (-1000) 1000 then true else !F71_0 dy (-1000) 1000 then 7 else bif bif dx == 0 then dy == 0 else false then 2 else (0 : Int)) = 0 := hc
 cases hp : ptOk x y with
 | false => rw [hp] at hc'; cases hc'
 | true =>
   rw [hp] at hc'
   cases hf : F71_0 h 1 200 with
   | false => rw [hf] at hc'; cases hc'
   | true => exact ⟨(pt_in hp).1, (pt_in hp).2, from_in hf⟩
theorem col_of {n6 : Nat} {f6 : Nat -> List V} {i : Nat} (h : cC n6 f6 i = 0) : colE (jv1 (f6 i)) (jv2 (f6 i)) (jv3 (f6 i)) (jv4 (f6 i)) (jv5 (f6 i)) = 0 := by
 have h' : F73 n6 (elV tyC f6) (i : Int) = 0 := h
 unfold F73 at h'
 simp only [Int.toNat_natCast] at h'
 cases hn : F122 (sv (hdV (elV tyC f6 i))) with
 | false => rw [hn] at h'; cases h'
 | true =>
   rw [hn, Bool.not_true, cond_false] at h'
   cases hd : exB i (fun k => (sv (hdV (elV tyC f6 k))).toList == (sv (hdV (elV tyC f6 i))).toList) with
   | true => rw [hd] at h'; cases h'
   | false => rw [hd, cond_false] at h'; exact h'
section
variable {X Y h tx ty R lo hi x9 x10 x11 x12 px py : Int}
structure TC (X Y h tx ty R lo hi : Int) : Prop where
 X' : -100000 <= X /\ X <= 100000
 Y' : -100000 <= Y /\ Y <= 100000
 h' : 1 <= h /\ h <= 200
 tx' : -100000 <= tx /\ tx <= 100000
 ty' : -100000 <= ty /\ ty <= 100000
 R' : 1 <= R /\ R <= 20000
 lo' : 0 <= lo /\ lo < hi /\ hi <= 1000
theorem TC.vals (t : TC X Y h tx ty R lo hi) : F48_0 h hi = max 0 (h - hi) /\ F104_0 h hi = max 0 (h - hi) /\ F48_1 h lo = h - lo /\ F104_1 h lo = h - lo /\ F48_2 h tx = h * tx /\ F105_0 h tx = h * tx /\ F48_3 h ty = h * ty /\ F105_1 h ty = h * ty /\ F48_4 h R = h * R /\ F105_2 h R = h * R /\ sm (h * tx) /\ sm (h * ty) /\ 0 <= h * R /\ h * R <= 1073741824 := by
 obtain ⟨_, _, hh, h1, h2, h3, h4⟩ := t
 have k1 := mulS (x := h) (y := tx) (A := 200) (B := 100000) (by omega) (by omega) (by omega) (by omega)
 have k2 := mulS (x := h) (y := ty) (A := 200) (B := 100000) (by omega) (by omega) (by omega) (by omega)
 have k3 := mulS (x := h) (y := R) (A := 200) (B := 20000) (by omega) (by omega) (by omega) (by omega)
 have k4 := imn (show 0 <= h by omega) (show 0 <= R by omega)
 unfold F48_0 F104_0 F48_1 F104_1 F48_2 F48_3 F48_4 F101_0 F101_1 F105_0 F105_1 F105_2
 rw [Int.mul_comm R h, wrapI (x := h - hi) (by omega) (by omega), wrapI (x := h - min hi h) (by omega) (by omega), wrapI (x := h - lo) (by omega) (by omega), wrapI (x := h * tx) (by omega) (by omega), wrapI (x := h * ty) (by omega) (by omega), wrapI (x := h * R) (by omega) (by omega)]
 unfold sm
 refine ⟨rfl, by omega, rfl, rfl, rfl, rfl, rfl, rfl, rfl, rfl, by omega, by omega, k4, by omega⟩
theorem TC.lo5 (lo hi h : Int) : F104_2 h lo = !F48_5 h lo := by
 unfold F104_2 F48_5
 by_cases k : lo <= h
 ·rw [dqt k, dqf (by omega)]; rfl
 ·rw [dqf k, dqt (by omega)]; rfl
theorem TC.in57 (t : TC X Y h tx ty R lo hi) (hb : F48_5 h lo = false) (h9 : -100000 <= x9 /\ x9 <= 100000) (h10 : -100000 <= x10 /\ x10 <= 100000) (h11 : -100000 <= x11 /\ x11 <= 100000) (h12 : -100000 <= x12 /\ x12 <= 100000) : In57 X Y h (F48_0 h hi) (F48_1 h lo) (F48_2 h tx) (F48_3 h ty) (F48_4 h R) x9 x10 x11 x12 := by
 obtain ⟨e1, _, e2, _, e3, _, e4, _, e5, _, s1, s2, s3, s4⟩ := t.vals
 have := t.h'; have := t.lo'
 unfold F48_5 at hb
 have hb := of_decide_eq_false hb
 rw [e1, e2, e3, e4, e5]
 exact ⟨t.X', t.Y', by omega, by omega, by omega, s1, s2, ⟨s3, s4⟩, h9, h10, h11, h12⟩
theorem TC.refIn (t : TC X Y h tx ty R lo hi) (hb : F104_2 h lo = true) (h9 : -100000 <= x9 /\ x9 <= 100000) (h10 : -100000 <= x10 /\ x10 <= 100000) (h11 : -100000 <= x11 /\ x11 <= 100000) (h12 : -100000 <= x12 /\ x12 <= 100000) : In57 X Y h (F104_0 h hi) (F104_1 h lo) (F105_0 h tx) (F105_1 h ty) (F105_2 h R) x9 x10 x11 x12 := by
 obtain ⟨e1, e1', e2, e2', e3, e3', e4, e4', e5, e5', _⟩ := t.vals
 have := t.in57 (x9 := x9) (x10 := x10) (x11 := x11) (x12 := x12) (by rw [TC.lo5 lo hi h] at hb; exact tnF hb) h9 h10 h11 h12
 rwa [e1, ← e1', e2, ← e2', e3, ← e3', e4, ← e4', e5, ← e5'] at this
theorem TC.touch (t : TC X Y h tx ty R lo hi) : F57 X Y h (F48_0 h hi) (F48_1 h lo) (F48_2 h tx) (F48_3 h ty) (F48_4 h R) (F48_5 h lo) x9 x10 x11 x12 = F60 X Y h tx ty R lo hi x9 x10 x11 x12 := by
 obtain ⟨e1, e1', e2, e2', e3, e3', e4, e4', e5, e5', _⟩ := t.vals
 unfold F57 F60
 rw [TC.lo5 lo hi h, e1, e1', e2, e2', e3, e3', e4, e4', e5, e5']
theorem TC.hasE (t : TC X Y h tx ty R lo hi) (hx : -100000 <= px /\ px <= 100000) (hy : -100000 <= py /\ py <= 100000) : F49_0 X Y h (F48_0 h hi) (F48_1 h lo) (F48_2 h tx) (F48_3 h ty) (F48_4 h R) (F48_5 h lo) px py = F52_0 X Y h tx ty R lo hi px py := by
 obtain ⟨e1, e1', e2, e2', e3, e3', e4, e4', e5, e5', s1, s2, s3, s4⟩ := t.vals
 have := t.h'; have := t.lo'
 unfold F49_0 F52_0
 rw [TC.lo5 lo hi h]
 cases hb : F48_5 h lo with
 | true => rfl
 | false =>
   rw [Bool.not_false, cond_true, cond_true, e1, e1', e2, e2', e3, e3', e4, e4', e5, e5']
   unfold F48_5 at hb
   have hb := of_decide_eq_false hb
   have p0 := atS t.X' (h := h) (n := max 0 (h - hi)) (by omega) (by omega) hx
   have p1 := atS t.Y' (h := h) (n := max 0 (h - hi)) (by omega) (by omega) hy
   have q0 := atS t.X' (h := h) (n := h - lo) (by omega) (by omega) hx
   have q1 := atS t.Y' (h := h) (n := h - lo) (by omega) (by omega) hy
   rw [show F107_0 X h px (max 0 (h - hi)) = F102_0 X h px (max 0 (h - hi)) from rfl, show F107_1 Y h py (max 0 (h - hi)) = F102_1 Y h py (max 0 (h - hi)) from rfl, show F107_0 X h px (h - lo) = F102_0 X h px (h - lo) from rfl, show F107_1 Y h py (h - lo) = F102_1 Y h py (h - lo) from rfl]
   rw [p0.1, p1.2.1, q0.1, q1.2.1]
   rw [near_p p0.2.2 p1.2.2 q0.2.2 q1.2.2 s1 s2 s3 s4, near_r p0.2.2 p1.2.2 q0.2.2 q1.2.2 s1 s2 s3 s4]
end
def bestF (d t : Nat -> Bool) : Nat -> Int
 | 0 => 0
 | k + 1 => bif d k then 2 else bif t k then max (bestF d t k) 1 else bestF d t k
def shadeF (d t : Nat -> Bool) (n : Nat) : Int := bif exB n d then 2 else bif exB n t then 1 else 0
theorem exB_succ (n : Nat) (p : Nat -> Bool) : exB (n + 1) p = (exB n p || p n) := by
 cases h : exB (n + 1) p with
 | true =>
   obtain ⟨i, hi, hp⟩ := exB_iff.1 h
   by_cases e : i = n
   ·rw [← e, hp]; simp
   ·rw [exB_true i (by omega) hp]; rfl
 | false =>
   have h1 : exB n p = false := by
    cases h2 : exB n p with
    | false => rfl
    | true => obtain ⟨i, hi, hp⟩ := exB_iff.1 h2; rw [exB_true i (by omega) hp] at h; cases h
   have h2 : p n = false := by
    cases h2 : p n with
    | false => rfl
    | true => rw [exB_true n (by omega) h2] at h; cases h
   rw [h1, h2]; rfl
theorem best_shade (d t : Nat -> Bool) : ∀ n, bestF d t n = shadeF d t n
 | 0 => rfl
 | n + 1 => by
   have ih := best_shade d t n
   unfold shadeF at *
   simp only [bestF]
   rw [exB_succ, exB_succ, ih]
   cases exB n d <;> cases exB n t <;> cases d n <;> cases t n <;> rfl
end
end Go.Dx
namespace Go.Dx
open Go.IntKind (i64 u64 u8)
open Go.Sx Go.Proofs
noncomputable section
def ctB31 : CTab := (60, .con C60) :: ctB30
theorem tabB31 : TabOk Tryz.prog eqs its ctB31 := .con ok60 (tabB30)
attribute [local irreducible] F44 F50_0 F91_0
def u18 : Unr := fun k => bif Nat.beq k 2 then 5 else 0
theorem sc_in {n0 : Nat} {f0 : Nat -> List V} {n2 : Nat} {f2 : Nat -> List V} {n4 : Nat} {f4 : Nat -> List V} {n6 : Nat} {f6 : Nat -> List V} {x8 : Int} (h : ix1 (F24_2 n0 (elV tyR f0) n2 (elV tyT f2) n4 (elV tyF f4) n6 (elV tyC f6)) x8 n6 = 0) : (0 <= x8 /\ x8 < (n6 : Int)) /\ ∀ i, i < n2 -> TC (jv1 (f6 x8.toNat)) (jv2 (f6 x8.toNat)) (jv3 (f6 x8.toNat)) (jv0 (f2 i)) (jv1 (f2 i)) (jv2 (f2 i)) (jv3 (f2 i)) (jv4 (f2 i)) := by
 obtain ⟨h1, h2, h3⟩ := ix1_zero h
 have hv := valid h1
 refine ⟨⟨h2, h3⟩, fun i hi => ?_⟩
 have hc := col_in (col_of (f6 := elV tyC f6) (hv.cl x8.toNat (by omega)))
 have ht := tree_in (hv.tr i hi)
 exact ⟨hc.1, hc.2.1, hc.2.2, ht.1, ht.2.1, ht.2.2.1, ht.2.2.2⟩
inductive S17 where
 | L0 (ia0 ia1 : Int)
def inv17 (n0 : Nat) (f0 : FnV) (n2 : Nat) (f2 : FnV) (n4 : Nat) (f4 : FnV) (n6 : Nat) (f6 : FnV) (x8 x9 x10 x11 x12 : Int) : S17 -> Env × List O × Option Ex
 | .L0 ia0 ia1 => ([(31, vi ia0), (30, vi (↑n2 : Int)), (29, V.sl n2 (elV tyT f2)), (9, vi ia1), (5, V.pl 0 0), (3, V.pl 1 0), (1, vi x8)], [O.cells [vi x9, vi x10, vi x11, vi x12] 29, O.cells [V.sl n0 (elV tyR f0), V.sl n2 (elV tyT f2), V.sl n4 (elV tyF f4), V.sl n6 (elV tyC f6)] 27], none)
def id17 : S17 -> JJ
 | .L0 ia0 ia1 => (0, [])
def rl17 (n0 : Nat) (f0 : FnV) (n2 : Nat) (f2 : FnV) (n4 : Nat) (f4 : FnV) (n6 : Nat) (f6 : FnV) (x8 x9 x10 x11 x12 : Int) : T (Leaf JJ) := runL JJ ctB31 u0 s17 [scV n0 f0 n2 f2 n4 f4 n6 f6, vi x8, V.agg [vi x9, vi x10, vi x11, vi x12]]
def lp17_0 (n0 : Nat) (f0 : FnV) (n2 : Nat) (f2 : FnV) (n4 : Nat) (f4 : FnV) (n6 : Nat) (f6 : FnV) (x8 x9 x10 x11 x12 : Int) (cx : List Cx) : Lp JJ := lpT (atT (rl17 n0 f0 n2 f2 n4 f4 n6 f6 x8 x9 x10 x11 x12) [false, false])
def lp17 (n0 : Nat) (f0 : FnV) (n2 : Nat) (f2 : FnV) (n4 : Nat) (f4 : FnV) (n6 : Nat) (f6 : FnV) (x8 x9 x10 x11 x12 : Int) : JJ -> Lp JJ
 | (0, cx) => lp17_0 n0 f0 n2 f2 n4 f4 n6 f6 x8 x9 x10 x11 x12 cx
 | (_, cx) => lp17_0 n0 f0 n2 f2 n4 f4 n6 f6 x8 x9 x10 x11 x12 cx
def D17 (n0 : Nat) (f0 : FnV) (n2 : Nat) (f2 : FnV) (n4 : Nat) (f4 : FnV) (n6 : Nat) (f6 : FnV) (x8 x9 x10 x11 x12 : Int) : LD JJ S17 := ⟨id17, lp17 n0 f0 n2 f2 n4 f4 n6 f6 x8 x9 x10 x11 x12, inv17 n0 f0 n2 f2 n4 f4 n6 f6 x8 x9 x10 x11 x12⟩
def st17 (n0 : Nat) (f0 : FnV) (n2 : Nat) (f2 : FnV) (n4 : Nat) (f4 : FnV) (n6 : Nat) (f6 : FnV) (x8 x9 x10 x11 x12 : Int) : S17 -> RT S17
 | .L0 ia0 ia1 => .br (decide (ia0 < (↑n2 : Int))) (.ob (decide (0 <= ia0 /\ ia0 < (↑n2 : Int))) (.ob (decide (0 <= x8 /\ x8 < (↑n6 : Int))) (.obc (.obt (.obc (.obt (.obc (.obt (.br (!F55_0 4 (elV tp2 (secF [vi x9, vi x10, vi x11, vi x10, vi x11, vi x12, vi x9, vi x12] 0 2)) (jv1 (f6 x8.toNat)) (jv2 (f6 x8.toNat)) (jv3 (f6 x8.toNat)) (F48_0 (jv3 (f6 x8.toNat)) (jv4 (f2 ia0.toNat))) (F48_1 (jv3 (f6 x8.toNat)) (jv3 (f2 ia0.toNat))) (F48_2 (jv3 (f6 x8.toNat)) (jv0 (f2 ia0.toNat))) (F48_3 (jv3 (f6 x8.toNat)) (jv1 (f2 ia0.toNat))) (F48_4 (jv3 (f6 x8.toNat)) (jv2 (f2 ia0.toNat))) (F48_5 (jv3 (f6 x8.toNat)) (jv3 (f2 ia0.toNat)))) (.next [some (some 0), some (some 1)] (S17.L0 (i64.wrap (ia0 + 1)) (2)) []) (.obp (F48_5 (jv3 (f6 x8.toNat)) (jv3 (f2 ia0.toNat)) = false -> ((-100000 : Int) <= jv1 (f6 x8.toNat) /\ jv1 (f6 x8.toNat) <= (100000 : Int)) /\ ((-100000 : Int) <= jv2 (f6 x8.toNat) /\ jv2 (f6 x8.toNat) <= (100000 : Int)) /\ ((0 : Int) <= jv3 (f6 x8.toNat) /\ jv3 (f6 x8.toNat) <= (200 : Int)) /\ ((0 : Int) <= F48_0 (jv3 (f6 x8.toNat)) (jv4 (f2 ia0.toNat)) /\ F48_0 (jv3 (f6 x8.toNat)) (jv4 (f2 ia0.toNat)) <= (200 : Int)) /\ ((0 : Int) <= F48_1 (jv3 (f6 x8.toNat)) (jv3 (f2 ia0.toNat)) /\ F48_1 (jv3 (f6 x8.toNat)) (jv3 (f2 ia0.toNat)) <= (200 : Int)) /\ ((-536870912 : Int) <= F48_2 (jv3 (f6 x8.toNat)) (jv0 (f2 ia0.toNat)) /\ F48_2 (jv3 (f6 x8.toNat)) (jv0 (f2 ia0.toNat)) <= (536870912 : Int)) /\ ((-536870912 : Int) <= F48_3 (jv3 (f6 x8.toNat)) (jv1 (f2 ia0.toNat)) /\ F48_3 (jv3 (f6 x8.toNat)) (jv1 (f2 ia0.toNat)) <= (536870912 : Int)) /\ ((0 : Int) <= F48_4 (jv3 (f6 x8.toNat)) (jv2 (f2 ia0.toNat)) /\ F48_4 (jv3 (f6 x8.toNat)) (jv2 (f2 ia0.toNat)) <= (1073741824 : Int)) /\ ((-100000 : Int) <= x9 /\ x9 <= (100000 : Int)) /\ ((-100000 : Int) <= x10 /\ x10 <= (100000 : Int)) /\ ((-100000 : Int) <= x11 /\ x11 <= (100000 : Int)) /\ (-100000 : Int) <= x12 /\ x12 <= (100000 : Int)) (.obt (.br (F57 (jv1 (f6 x8.toNat)) (jv2 (f6 x8.toNat)) (jv3 (f6 x8.toNat)) (F48_0 (jv3 (f6 x8.toNat)) (jv4 (f2 ia0.toNat))) (F48_1 (jv3 (f6 x8.toNat)) (jv3 (f2 ia0.toNat))) (F48_2 (jv3 (f6 x8.toNat)) (jv0 (f2 ia0.toNat))) (F48_3 (jv3 (f6 x8.toNat)) (jv1 (f2 ia0.toNat))) (F48_4 (jv3 (f6 x8.toNat)) (jv2 (f2 ia0.toNat))) (F48_5 (jv3 (f6 x8.toNat)) (jv3 (f2 ia0.toNat))) x9 x10 x11 x12) (.next [some (some 0), some (some 1)] (S17.L0 (i64.wrap (ia0 + 1)) (max ia1 1)) []) (.next [some (some 0), some (some 1)] (S17.L0 (i64.wrap (ia0 + 1)) (ia1)) []))))))))))))) (.ret (V.tup [vi ia1, vi 0]))
def m17 (n0 : Nat) (f0 : FnV) (n2 : Nat) (f2 : FnV) (n4 : Nat) (f4 : FnV) (n6 : Nat) (f6 : FnV) (x8 x9 x10 x11 x12 : Int) : RT S17 := .asm (true = true -> n6 <= 9223372036854775807) (.obp (((∀ (i : Nat), i < n0 -> (sv (hdV (f0 i))).size <= (9223372036854775807 : Nat)) /\ ∀ (i : Nat), i < n6 -> (sv (hdV (f6 i))).size <= (9223372036854775807 : Nat)) /\ (0 : Nat) = (0 : Nat) /\ (2 : Nat) <= (100 : Nat)) (.obt (.br (F44 n0 (elV tyR f0) n2 (elV tyT f2) n4 (elV tyF f4) n6 (elV tyC f6) 2 (elV tp1 (secF [vi x8, vi (↑n6 : Int)] 0 1)) != 0) (.ret (V.tup [vi 0, vi (F44 n0 (elV tyR f0) n2 (elV tyT f2) n4 (elV tyF f4) n6 (elV tyC f6) 2 (elV tp1 (secF [vi x8, vi (↑n6 : Int)] 0 1)))])) (.obc (.obt (.br (F53_0 x9 x10 x11 x12) (.ret (V.tup [vi 0, vi 7])) (.asm (true = true -> n2 <= 9223372036854775807) (.enter [some (some 1), some (some 0)] (S17.L0 (0) (0)) []))))))))
theorem run17 (n0 : Nat) (f0 : FnV) (n2 : Nat) (f2 : FnV) (n4 : Nat) (f4 : FnV) (n6 : Nat) (f6 : FnV) (x8 x9 x10 x11 x12 : Int) : Fits ctB31 u0 (D17 n0 f0 n2 f2 n4 f4 n6 f6 x8 x9 x10 x11 x12) (rl17 n0 f0 n2 f2 n4 f4 n6 f6 x8 x9 x10 x11 x12) (m17 n0 f0 n2 f2 n4 f4 n6 f6 x8 x9 x10 x11 x12) (st17 n0 f0 n2 f2 n4 f4 n6 f6 x8 x9 x10 x11 x12) := ⟨⟨by kernel_rfl, by kernel_rfl⟩, fun s => by cases s <;> exact ⟨by kernel_rfl, by kernel_rfl⟩⟩
def d17 (n0 : Nat) (f0 : FnV) (n2 : Nat) (f2 : FnV) (n4 : Nat) (f4 : FnV) (n6 : Nat) (f6 : FnV) (x8 x9 x10 x11 x12 : Int) (ii : Nat) : Bool := !F55_0 4 (elV tp2 (secF [vi x9, vi x10, vi x11, vi x10, vi x11, vi x12, vi x9, vi x12] 0 2)) (jv1 (f6 x8.toNat)) (jv2 (f6 x8.toNat)) (jv3 (f6 x8.toNat)) (F48_0 (jv3 (f6 x8.toNat)) (jv4 (f2 ii))) (F48_1 (jv3 (f6 x8.toNat)) (jv3 (f2 ii))) (F48_2 (jv3 (f6 x8.toNat)) (jv0 (f2 ii))) (F48_3 (jv3 (f6 x8.toNat)) (jv1 (f2 ii))) (F48_4 (jv3 (f6 x8.toNat)) (jv2 (f2 ii))) (F48_5 (jv3 (f6 x8.toNat)) (jv3 (f2 ii)))
def t17 (n0 : Nat) (f0 : FnV) (n2 : Nat) (f2 : FnV) (n4 : Nat) (f4 : FnV) (n6 : Nat) (f6 : FnV) (x8 x9 x10 x11 x12 : Int) (ii : Nat) : Bool := F57 (jv1 (f6 x8.toNat)) (jv2 (f6 x8.toNat)) (jv3 (f6 x8.toNat)) (F48_0 (jv3 (f6 x8.toNat)) (jv4 (f2 ii))) (F48_1 (jv3 (f6 x8.toNat)) (jv3 (f2 ii))) (F48_2 (jv3 (f6 x8.toNat)) (jv0 (f2 ii))) (F48_3 (jv3 (f6 x8.toNat)) (jv1 (f2 ii))) (F48_4 (jv3 (f6 x8.toNat)) (jv2 (f2 ii))) (F48_5 (jv3 (f6 x8.toNat)) (jv3 (f2 ii))) x9 x10 x11 x12
def F17_0 (n0 : Nat) (f0 : FnV) (n2 : Nat) (f2 : FnV) (n4 : Nat) (f4 : FnV) (n6 : Nat) (f6 : FnV) (x8 x9 x10 x11 x12 : Int) : Int := bif F44 n0 (elV tyR f0) n2 (elV tyT f2) n4 (elV tyF f4) n6 (elV tyC f6) 2 (elV tp1 (secF [vi x8, vi (↑n6 : Int)] 0 1)) != 0 then 0 else bif F53_0 x9 x10 x11 x12 then 0 else bestF (d17 n0 f0 n2 f2 n4 f4 n6 f6 x8 x9 x10 x11 x12) (t17 n0 f0 n2 f2 n4 f4 n6 f6 x8 x9 x10 x11 x12) n2
def F17_1 (n0 : Nat) (f0 : FnV) (n2 : Nat) (f2 : FnV) (n4 : Nat) (f4 : FnV) (n6 : Nat) (f6 : FnV) (x8 x9 x10 x11 x12 : Int) : Int := bif F44 n0 (elV tyR f0) n2 (elV tyT f2) n4 (elV tyF f4) n6 (elV tyC f6) 2 (elV tp1 (secF [vi x8, vi (↑n6 : Int)] 0 1)) != 0 then F44 n0 (elV tyR f0) n2 (elV tyT f2) n4 (elV tyF f4) n6 (elV tyC f6) 2 (elV tp1 (secF [vi x8, vi (↑n6 : Int)] 0 1)) else bif F53_0 x9 x10 x11 x12 then 7 else 0
theorem c17 (n0 : Nat) (f0 : FnV) (n2 : Nat) (f2 : FnV) (n4 : Nat) (f4 : FnV) (n6 : Nat) (f6 : FnV) (x8 x9 x10 x11 x12 : Int) (hx : 0 <= x8 /\ x8 < (n6 : Int)) (hn : n2 <= 9223372036854775807) (hin : ∀ i, i < n2 -> TC (jv1 (f6 x8.toNat)) (jv2 (f6 x8.toNat)) (jv3 (f6 x8.toNat)) (jv0 (f2 i)) (jv1 (f2 i)) (jv2 (f2 i)) (jv3 (f2 i)) (jv4 (f2 i))) (hp : (-100000 <= x9 /\ x9 <= 100000) /\ (-100000 <= x10 /\ x10 <= 100000) /\ (-100000 <= x11 /\ x11 <= 100000) /\ (-100000 <= x12 /\ x12 <= 100000)) :
 ∀ i, i <= n2 -> Ev (st17 n0 f0 n2 f2 n4 f4 n6 f6 x8 x9 x10 x11 x12) (.L0 (i : Int) (bestF (d17 n0 f0 n2 f2 n4 f4 n6 f6 x8 x9 x10 x11 x12) (t17 n0 f0 n2 f2 n4 f4 n6 f6 x8 x9 x10 x11 x12) i)) (.tup [.int .i64 (bestF (d17 n0 f0 n2 f2 n4 f4 n6 f6 x8 x9 x10 x11 x12) (t17 n0 f0 n2 f2 n4 f4 n6 f6 x8 x9 x10 x11 x12) n2), .int .i64 0]) := by
 refine up_ind fun i hi ih => ?_
 by_cases hlt : i < n2
 ·have ih := ih hlt
  have hw := wrapS hlt hn
  refine Ev.of rfl (evBrT (dqt (by omega)) (evOb (dqt (by omega)) (evOb (dqt hx) (evObc (evObt (evObc (evObt (evObc (evObt (evBr (fun h => evNext ?_) (fun h => evObp ?_ (evObt (evBr (fun h2 => evNext ?_) (fun h2 => evNext ?_))))))))))))))
  ·rw [hw]
   have e : bestF (d17 n0 f0 n2 f2 n4 f4 n6 f6 x8 x9 x10 x11 x12) (t17 n0 f0 n2 f2 n4 f4 n6 f6 x8 x9 x10 x11 x12) (i + 1) = 2 := by simp only [bestF]; rw [show d17 n0 f0 n2 f2 n4 f4 n6 f6 x8 x9 x10 x11 x12 i = true from h]; rfl
   rw [e] at ih; exact ih
  ·exact fun hb => (hin i hlt).in57 hb hp.1 hp.2.1 hp.2.2.1 hp.2.2.2
  ·rw [hw]
   have e : bestF (d17 n0 f0 n2 f2 n4 f4 n6 f6 x8 x9 x10 x11 x12) (t17 n0 f0 n2 f2 n4 f4 n6 f6 x8 x9 x10 x11 x12) (i + 1) = max (bestF (d17 n0 f0 n2 f2 n4 f4 n6 f6 x8 x9 x10 x11 x12) (t17 n0 f0 n2 f2 n4 f4 n6 f6 x8 x9 x10 x11 x12) i) 1 := by simp only [bestF]; rw [show d17 n0 f0 n2 f2 n4 f4 n6 f6 x8 x9 x10 x11 x12 i = false from h, show t17 n0 f0 n2 f2 n4 f4 n6 f6 x8 x9 x10 x11 x12 i = true from h2]; rfl
   rw [e] at ih; exact ih
  ·rw [hw]
   have e : bestF (d17 n0 f0 n2 f2 n4 f4 n6 f6 x8 x9 x10 x11 x12) (t17 n0 f0 n2 f2 n4 f4 n6 f6 x8 x9 x10 x11 x12) (i + 1) = bestF (d17 n0 f0 n2 f2 n4 f4 n6 f6 x8 x9 x10 x11 x12) (t17 n0 f0 n2 f2 n4 f4 n6 f6 x8 x9 x10 x11 x12) i := by simp only [bestF]; rw [show d17 n0 f0 n2 f2 n4 f4 n6 f6 x8 x9 x10 x11 x12 i = false from h, show t17 n0 f0 n2 f2 n4 f4 n6 f6 x8 x9 x10 x11 x12 i = false from h2]; rfl
   rw [e] at ih; exact ih
 ·have e : i = n2 := by omega
  subst e
  exact Ev.of rfl (evBrF (dqf (by omega)) (evRet rfl))
theorem ev17_0 (n0 : Nat) (f0 : FnV) (n2 : Nat) (f2 : FnV) (n4 : Nat) (f4 : FnV) (n6 : Nat) (f6 : FnV) (x8 x9 x10 x11 x12 : Int) (hp : SzOk n0 f0 /\ SzOk n6 f6) : evR (Ev (st17 n0 f0 n2 f2 n4 f4 n6 f6 x8 x9 x10 x11 x12)) (m17 n0 f0 n2 f2 n4 f4 n6 f6 x8 x9 x10 x11 x12) (.tup [.int .i64 (F17_0 n0 f0 n2 f2 n4 f4 n6 f6 x8 x9 x10 x11 x12), .int .i64 (F17_1 n0 f0 n2 f2 n4 f4 n6 f6 x8 x9 x10 x11 x12)]) := evAsm1 fun h6 => evObp ⟨hp, rfl, by decide⟩ (evObt (evBr (fun h => evRet (by unfold F17_0 F17_1; rw [h]; rfl)) (fun h => evObc (evObt (evBr (fun h2 => evRet (by unfold F17_0 F17_1; rw [h, h2]; rfl)) (fun h2 => evAsm1 fun hn => evEnter (by
 have e0 : F17_0 n0 f0 n2 f2 n4 f4 n6 f6 x8 x9 x10 x11 x12 = bestF (d17 n0 f0 n2 f2 n4 f4 n6 f6 x8 x9 x10 x11 x12) (t17 n0 f0 n2 f2 n4 f4 n6 f6 x8 x9 x10 x11 x12) n2 := by unfold F17_0; rw [h, h2]; rfl
 have e1 : F17_1 n0 f0 n2 f2 n4 f4 n6 f6 x8 x9 x10 x11 x12 = 0 := by unfold F17_1; rw [h, h2]; rfl
 rw [e0, e1]
 have hc := chk2 (n0 := n0) (f0 := f0) (n2 := n2) (f2 := f2) (n4 := n4) (f4 := f4) (n6 := n6) (f6 := f6) (i := x8) (m := n6) (fun _ => h6)
 have hz : ix1 (F24_2 n0 (elV tyR f0) n2 (elV tyT f2) n4 (elV tyF f4) n6 (elV tyC f6)) x8 n6 = 0 := by rw [← hc]; simpa using h
 obtain ⟨hx, hin⟩ := sc_in hz
 rw [rough_eq] at h2
 have hq := patch_in (tnT h2)
 exact c17 _ _ _ _ _ _ _ _ _ _ _ _ _ hx hn hin ⟨hq.1, hq.2.1, hq.2.2.1, hq.2.2.2.1⟩ 0 (Nat.zero_le _))))))))
theorem ev17 (n0 : Nat) (f0 : FnV) (n2 : Nat) (f2 : FnV) (n4 : Nat) (f4 : FnV) (n6 : Nat) (f6 : FnV) (x8 x9 x10 x11 x12 : Int) (hp : SzOk n0 (elV tyR f0) /\ SzOk n6 (elV tyC f6)) : evR (Ev (st17 n0 f0 n2 f2 n4 f4 n6 f6 x8 x9 x10 x11 x12)) (m17 n0 f0 n2 f2 n4 f4 n6 f6 x8 x9 x10 x11 x12) (.tup [.int .i64 (F17_0 n0 (elV tyR f0) n2 (elV tyT f2) n4 (elV tyF f4) n6 (elV tyC f6) x8 x9 x10 x11 x12), .int .i64 (F17_1 n0 (elV tyR f0) n2 (elV tyT f2) n4 (elV tyF f4) n6 (elV tyC f6) x8 x9 x10 x11 x12)]) := ev17_0 n0 f0 n2 f2 n4 f4 n6 f6 x8 x9 x10 x11 x12 hp
def C17 : PCon := mkC [.agg [.sl tyR, .sl tyT, .sl tyF, .sl tyC], .int .i64, .agg tp4] (fun
 | [.agg [.sl n0 f0, .sl n2 f2, .sl n4 f4, .sl n6 f6], .int _ x8, .agg [.int _ x9, .int _ x10, .int _ x11, .int _ x12]] => SzOk n0 f0 /\ SzOk n6 f6
 | _ => False) fun
 | [.agg [.sl n0 f0, .sl n2 f2, .sl n4 f4, .sl n6 f6], .int _ x8, .agg [.int _ x9, .int _ x10, .int _ x11, .int _ x12]] => .tup [.int .i64 (F17_0 n0 f0 n2 f2 n4 f4 n6 f6 x8 x9 x10 x11 x12), .int .i64 (F17_1 n0 f0 n2 f2 n4 f4 n6 f6 x8 x9 x10 x11 x12)]
 | _ => .any
theorem ok17 : (vP C17).Ok Tryz.prog 17 := mkE tabB31 Tryz.func17 (by kernel_rfl) fun ds hp => rfs (run17 ..) (ev17 _ _ _ _ _ _ _ _ _ _ _ _ _ hp)
inductive S18 where
 | L0 (ia0 ia1 : Int)
def inv18 (n0 : Nat) (f0 : FnV) (n2 : Nat) (f2 : FnV) (n4 : Nat) (f4 : FnV) (n6 : Nat) (f6 : FnV) (x8 x9 x10 x11 x12 : Int) : S18 -> Env × List O × Option Ex
 | .L0 ia0 ia1 => ([(12, vi ia0), (11, vi ia1), (10, V.pl 0 0), (9, V.pl 1 0), (5, V.pl 2 0), (3, V.pl 3 0)], [O.cells [vi x9, vi x10, vi x11, vi x10, vi x11, vi x12, vi x9, vi x12] 112, O.cells [V.str (sv (hdV (f6 x8.toNat))), vi (jv1 (f6 x8.toNat)), vi (jv2 (f6 x8.toNat)), vi (jv3 (f6 x8.toNat)), vi (jv4 (f6 x8.toNat)), vi (jv5 (f6 x8.toNat))] 100, O.cells [vi x9, vi x10, vi x11, vi x12] 29, O.cells [V.sl n0 (elV tyR f0), V.sl n2 (elV tyT f2), V.sl n4 (elV tyF f4), V.sl n6 (elV tyC f6)] 27], none)
def id18 : S18 -> JJ
 | .L0 ia0 ia1 => (0, [])
def rl18 (n0 : Nat) (f0 : FnV) (n2 : Nat) (f2 : FnV) (n4 : Nat) (f4 : FnV) (n6 : Nat) (f6 : FnV) (x8 x9 x10 x11 x12 : Int) : T (Leaf JJ) := runL JJ ctB31 u18 s18 [scV n0 f0 n2 f2 n4 f4 n6 f6, vi x8, V.agg [vi x9, vi x10, vi x11, vi x12]]
def lp18_0 (n0 : Nat) (f0 : FnV) (n2 : Nat) (f2 : FnV) (n4 : Nat) (f4 : FnV) (n6 : Nat) (f6 : FnV) (x8 x9 x10 x11 x12 : Int) (cx : List Cx) : Lp JJ := lpT (atT (rl18 n0 f0 n2 f2 n4 f4 n6 f6 x8 x9 x10 x11 x12) [true, false, false])
def lp18 (n0 : Nat) (f0 : FnV) (n2 : Nat) (f2 : FnV) (n4 : Nat) (f4 : FnV) (n6 : Nat) (f6 : FnV) (x8 x9 x10 x11 x12 : Int) : JJ -> Lp JJ
 | (0, cx) => lp18_0 n0 f0 n2 f2 n4 f4 n6 f6 x8 x9 x10 x11 x12 cx
 | (_, cx) => lp18_0 n0 f0 n2 f2 n4 f4 n6 f6 x8 x9 x10 x11 x12 cx
def D18 (n0 : Nat) (f0 : FnV) (n2 : Nat) (f2 : FnV) (n4 : Nat) (f4 : FnV) (n6 : Nat) (f6 : FnV) (x8 x9 x10 x11 x12 : Int) : LD JJ S18 := ⟨id18, lp18 n0 f0 n2 f2 n4 f4 n6 f6 x8 x9 x10 x11 x12, inv18 n0 f0 n2 f2 n4 f4 n6 f6 x8 x9 x10 x11 x12⟩
def st18 (n0 : Nat) (f0 : FnV) (n2 : Nat) (f2 : FnV) (n4 : Nat) (f4 : FnV) (n6 : Nat) (f6 : FnV) (x8 x9 x10 x11 x12 : Int) : S18 -> RT S18
 | .L0 ia0 ia1 => .asm (true = true -> n2 <= 9223372036854775807) (.br (decide (ia0 < (↑n2 : Int))) (.brt (.ob (decide (0 <= ia0 /\ ia0 < (↑n2 : Int))) (.obt (.obc (.obt (.brt (.obi (.obi (.obi (.obj (F52_0 (jv1 (f6 x8.toNat)) (jv2 (f6 x8.toNat)) (jv3 (f6 x8.toNat)) (jv0 (f2 ia0.toNat)) (jv1 (f2 ia0.toNat)) (jv2 (f2 ia0.toNat)) (jv3 (f2 ia0.toNat)) (jv4 (f2 ia0.toNat)) x9 x10) (decide (0 <= ia0 /\ ia0 < (↑n2 : Int))) (.obi (.obi (.obt (.obi (.br (F52_0 (jv1 (f6 x8.toNat)) (jv2 (f6 x8.toNat)) (jv3 (f6 x8.toNat)) (jv0 (f2 ia0.toNat)) (jv1 (f2 ia0.toNat)) (jv2 (f2 ia0.toNat)) (jv3 (f2 ia0.toNat)) (jv4 (f2 ia0.toNat)) x9 x10) (.ob (F52_0 (jv1 (f6 x8.toNat)) (jv2 (f6 x8.toNat)) (jv3 (f6 x8.toNat)) (jv0 (f2 ia0.toNat)) (jv1 (f2 ia0.toNat)) (jv2 (f2 ia0.toNat)) (jv3 (f2 ia0.toNat)) (jv4 (f2 ia0.toNat)) x9 x10) (.ob (F52_0 (jv1 (f6 x8.toNat)) (jv2 (f6 x8.toNat)) (jv3 (f6 x8.toNat)) (jv0 (f2 ia0.toNat)) (jv1 (f2 ia0.toNat)) (jv2 (f2 ia0.toNat)) (jv3 (f2 ia0.toNat)) (jv4 (f2 ia0.toNat)) x9 x10) (.ob (F52_0 (jv1 (f6 x8.toNat)) (jv2 (f6 x8.toNat)) (jv3 (f6 x8.toNat)) (jv0 (f2 ia0.toNat)) (jv1 (f2 ia0.toNat)) (jv2 (f2 ia0.toNat)) (jv3 (f2 ia0.toNat)) (jv4 (f2 ia0.toNat)) x9 x10) (.obc (.obt (.brt (.obi (.obi (.obi (.obj (F52_0 (jv1 (f6 x8.toNat)) (jv2 (f6 x8.toNat)) (jv3 (f6 x8.toNat)) (jv0 (f2 ia0.toNat)) (jv1 (f2 ia0.toNat)) (jv2 (f2 ia0.toNat)) (jv3 (f2 ia0.toNat)) (jv4 (f2 ia0.toNat)) x11 x10) (decide (0 <= ia0 /\ ia0 < (↑n2 : Int))) (.obi (.obi (.obt (.obi (.br (F52_0 (jv1 (f6 x8.toNat)) (jv2 (f6 x8.toNat)) (jv3 (f6 x8.toNat)) (jv0 (f2 ia0.toNat)) (jv1 (f2 ia0.toNat)) (jv2 (f2 ia0.toNat)) (jv3 (f2 ia0.toNat)) (jv4 (f2 ia0.toNat)) x11 x10) (.ob (F52_0 (jv1 (f6 x8.toNat)) (jv2 (f6 x8.toNat)) (jv3 (f6 x8.toNat)) (jv0 (f2 ia0.toNat)) (jv1 (f2 ia0.toNat)) (jv2 (f2 ia0.toNat)) (jv3 (f2 ia0.toNat)) (jv4 (f2 ia0.toNat)) x11 x10) (.ob (F52_0 (jv1 (f6 x8.toNat)) (jv2 (f6 x8.toNat)) (jv3 (f6 x8.toNat)) (jv0 (f2 ia0.toNat)) (jv1 (f2 ia0.toNat)) (jv2 (f2 ia0.toNat)) (jv3 (f2 ia0.toNat)) (jv4 (f2 ia0.toNat)) x11 x10) (.ob (F52_0 (jv1 (f6 x8.toNat)) (jv2 (f6 x8.toNat)) (jv3 (f6 x8.toNat)) (jv0 (f2 ia0.toNat)) (jv1 (f2 ia0.toNat)) (jv2 (f2 ia0.toNat)) (jv3 (f2 ia0.toNat)) (jv4 (f2 ia0.toNat)) x11 x10) (.obc (.obt (.brt (.obi (.obi (.obi (.obj (F52_0 (jv1 (f6 x8.toNat)) (jv2 (f6 x8.toNat)) (jv3 (f6 x8.toNat)) (jv0 (f2 ia0.toNat)) (jv1 (f2 ia0.toNat)) (jv2 (f2 ia0.toNat)) (jv3 (f2 ia0.toNat)) (jv4 (f2 ia0.toNat)) x11 x12) (decide (0 <= ia0 /\ ia0 < (↑n2 : Int))) (.obi (.obi (.obt (.obi (.br (F52_0 (jv1 (f6 x8.toNat)) (jv2 (f6 x8.toNat)) (jv3 (f6 x8.toNat)) (jv0 (f2 ia0.toNat)) (jv1 (f2 ia0.toNat)) (jv2 (f2 ia0.toNat)) (jv3 (f2 ia0.toNat)) (jv4 (f2 ia0.toNat)) x11 x12) (.ob (F52_0 (jv1 (f6 x8.toNat)) (jv2 (f6 x8.toNat)) (jv3 (f6 x8.toNat)) (jv0 (f2 ia0.toNat)) (jv1 (f2 ia0.toNat)) (jv2 (f2 ia0.toNat)) (jv3 (f2 ia0.toNat)) (jv4 (f2 ia0.toNat)) x11 x12) (.ob (F52_0 (jv1 (f6 x8.toNat)) (jv2 (f6 x8.toNat)) (jv3 (f6 x8.toNat)) (jv0 (f2 ia0.toNat)) (jv1 (f2 ia0.toNat)) (jv2 (f2 ia0.toNat)) (jv3 (f2 ia0.toNat)) (jv4 (f2 ia0.toNat)) x11 x12) (.ob (F52_0 (jv1 (f6 x8.toNat)) (jv2 (f6 x8.toNat)) (jv3 (f6 x8.toNat)) (jv0 (f2 ia0.toNat)) (jv1 (f2 ia0.toNat)) (jv2 (f2 ia0.toNat)) (jv3 (f2 ia0.toNat)) (jv4 (f2 ia0.toNat)) x11 x12) (.obc (.obt (.brf (.br (F52_0 (jv1 (f6 x8.toNat)) (jv2 (f6 x8.toNat)) (jv3 (f6 x8.toNat)) (jv0 (f2 ia0.toNat)) (jv1 (f2 ia0.toNat)) (jv2 (f2 ia0.toNat)) (jv3 (f2 ia0.toNat)) (jv4 (f2 ia0.toNat)) x9 x12) (.ret (V.tup [vi 2, vi 0])) (.ob (decide (0 <= ia0 /\ ia0 < (↑n2 : Int))) (.obp (F104_2 (jv3 (f6 x8.toNat)) (jv3 (f2 ia0.toNat)) = true -> ((-100000 : Int) <= jv1 (f6 x8.toNat) /\ jv1 (f6 x8.toNat) <= (100000 : Int)) /\ ((-100000 : Int) <= jv2 (f6 x8.toNat) /\ jv2 (f6 x8.toNat) <= (100000 : Int)) /\ ((0 : Int) <= jv3 (f6 x8.toNat) /\ jv3 (f6 x8.toNat) <= (200 : Int)) /\ ((0 : Int) <= F104_0 (jv3 (f6 x8.toNat)) (jv4 (f2 ia0.toNat)) /\ F104_0 (jv3 (f6 x8.toNat)) (jv4 (f2 ia0.toNat)) <= (200 : Int)) /\ ((0 : Int) <= F104_1 (jv3 (f6 x8.toNat)) (jv3 (f2 ia0.toNat)) /\ F104_1 (jv3 (f6 x8.toNat)) (jv3 (f2 ia0.toNat)) <= (200 : Int)) /\ ((-536870912 : Int) <= F105_0 (jv3 (f6 x8.toNat)) (jv0 (f2 ia0.toNat)) /\ F105_0 (jv3 (f6 x8.toNat)) (jv0 (f2 ia0.toNat)) <= (536870912 : Int)) /\ ((-536870912 : Int) <= F105_1 (jv3 (f6 x8.toNat)) (jv1 (f2 ia0.toNat)) /\ F105_1 (jv3 (f6 x8.toNat)) (jv1 (f2 ia0.toNat)) <= (536870912 : Int)) /\ ((0 : Int) <= F105_2 (jv3 (f6 x8.toNat)) (jv2 (f2 ia0.toNat)) /\ F105_2 (jv3 (f6 x8.toNat)) (jv2 (f2 ia0.toNat)) <= (1073741824 : Int)) /\ ((-100000 : Int) <= x9 /\ x9 <= (100000 : Int)) /\ ((-100000 : Int) <= x10 /\ x10 <= (100000 : Int)) /\ ((-100000 : Int) <= x11 /\ x11 <= (100000 : Int)) /\ (-100000 : Int) <= x12 /\ x12 <= (100000 : Int)) (.obt (.br (F60 (jv1 (f6 x8.toNat)) (jv2 (f6 x8.toNat)) (jv3 (f6 x8.toNat)) (jv0 (f2 ia0.toNat)) (jv1 (f2 ia0.toNat)) (jv2 (f2 ia0.toNat)) (jv3 (f2 ia0.toNat)) (jv4 (f2 ia0.toNat)) x9 x10 x11 x12) (.next (iR 0 4 []) (S18.L0 (i64.wrap (ia0 + 1)) (1)) []) (.next (iR 0 4 []) (S18.L0 (i64.wrap (ia0 + 1)) (ia1)) [])))))))))))) (.brf (.ob (decide (0 <= ia0 /\ ia0 < (↑n2 : Int))) (.obp (F104_2 (jv3 (f6 x8.toNat)) (jv3 (f2 ia0.toNat)) = true -> ((-100000 : Int) <= jv1 (f6 x8.toNat) /\ jv1 (f6 x8.toNat) <= (100000 : Int)) /\ ((-100000 : Int) <= jv2 (f6 x8.toNat) /\ jv2 (f6 x8.toNat) <= (100000 : Int)) /\ ((0 : Int) <= jv3 (f6 x8.toNat) /\ jv3 (f6 x8.toNat) <= (200 : Int)) /\ ((0 : Int) <= F104_0 (jv3 (f6 x8.toNat)) (jv4 (f2 ia0.toNat)) /\ F104_0 (jv3 (f6 x8.toNat)) (jv4 (f2 ia0.toNat)) <= (200 : Int)) /\ ((0 : Int) <= F104_1 (jv3 (f6 x8.toNat)) (jv3 (f2 ia0.toNat)) /\ F104_1 (jv3 (f6 x8.toNat)) (jv3 (f2 ia0.toNat)) <= (200 : Int)) /\ ((-536870912 : Int) <= F105_0 (jv3 (f6 x8.toNat)) (jv0 (f2 ia0.toNat)) /\ F105_0 (jv3 (f6 x8.toNat)) (jv0 (f2 ia0.toNat)) <= (536870912 : Int)) /\ ((-536870912 : Int) <= F105_1 (jv3 (f6 x8.toNat)) (jv1 (f2 ia0.toNat)) /\ F105_1 (jv3 (f6 x8.toNat)) (jv1 (f2 ia0.toNat)) <= (536870912 : Int)) /\ ((0 : Int) <= F105_2 (jv3 (f6 x8.toNat)) (jv2 (f2 ia0.toNat)) /\ F105_2 (jv3 (f6 x8.toNat)) (jv2 (f2 ia0.toNat)) <= (1073741824 : Int)) /\ ((-100000 : Int) <= x9 /\ x9 <= (100000 : Int)) /\ ((-100000 : Int) <= x10 /\ x10 <= (100000 : Int)) /\ ((-100000 : Int) <= x11 /\ x11 <= (100000 : Int)) /\ (-100000 : Int) <= x12 /\ x12 <= (100000 : Int)) (.obt (.br (F60 (jv1 (f6 x8.toNat)) (jv2 (f6 x8.toNat)) (jv3 (f6 x8.toNat)) (jv0 (f2 ia0.toNat)) (jv1 (f2 ia0.toNat)) (jv2 (f2 ia0.toNat)) (jv3 (f2 ia0.toNat)) (jv4 (f2 ia0.toNat)) x9 x10 x11 x12) (.next (iR 0 4 []) (S18.L0 (i64.wrap (ia0 + 1)) (1)) []) (.next (iR 0 4 []) (S18.L0 (i64.wrap (ia0 + 1)) (ia1)) []))))))))))))))))))))) (.brt (.brf (.ob (decide (0 <= ia0 /\ ia0 < (↑n2 : Int))) (.obp (F104_2 (jv3 (f6 x8.toNat)) (jv3 (f2 ia0.toNat)) = true -> ((-100000 : Int) <= jv1 (f6 x8.toNat) /\ jv1 (f6 x8.toNat) <= (100000 : Int)) /\ ((-100000 : Int) <= jv2 (f6 x8.toNat) /\ jv2 (f6 x8.toNat) <= (100000 : Int)) /\ ((0 : Int) <= jv3 (f6 x8.toNat) /\ jv3 (f6 x8.toNat) <= (200 : Int)) /\ ((0 : Int) <= F104_0 (jv3 (f6 x8.toNat)) (jv4 (f2 ia0.toNat)) /\ F104_0 (jv3 (f6 x8.toNat)) (jv4 (f2 ia0.toNat)) <= (200 : Int)) /\ ((0 : Int) <= F104_1 (jv3 (f6 x8.toNat)) (jv3 (f2 ia0.toNat)) /\ F104_1 (jv3 (f6 x8.toNat)) (jv3 (f2 ia0.toNat)) <= (200 : Int)) /\ ((-536870912 : Int) <= F105_0 (jv3 (f6 x8.toNat)) (jv0 (f2 ia0.toNat)) /\ F105_0 (jv3 (f6 x8.toNat)) (jv0 (f2 ia0.toNat)) <= (536870912 : Int)) /\ ((-536870912 : Int) <= F105_1 (jv3 (f6 x8.toNat)) (jv1 (f2 ia0.toNat)) /\ F105_1 (jv3 (f6 x8.toNat)) (jv1 (f2 ia0.toNat)) <= (536870912 : Int)) /\ ((0 : Int) <= F105_2 (jv3 (f6 x8.toNat)) (jv2 (f2 ia0.toNat)) /\ F105_2 (jv3 (f6 x8.toNat)) (jv2 (f2 ia0.toNat)) <= (1073741824 : Int)) /\ ((-100000 : Int) <= x9 /\ x9 <= (100000 : Int)) /\ ((-100000 : Int) <= x10 /\ x10 <= (100000 : Int)) /\ ((-100000 : Int) <= x11 /\ x11 <= (100000 : Int)) /\ (-100000 : Int) <= x12 /\ x12 <= (100000 : Int)) (.obt (.br (F60 (jv1 (f6 x8.toNat)) (jv2 (f6 x8.toNat)) (jv3 (f6 x8.toNat)) (jv0 (f2 ia0.toNat)) (jv1 (f2 ia0.toNat)) (jv2 (f2 ia0.toNat)) (jv3 (f2 ia0.toNat)) (jv4 (f2 ia0.toNat)) x9 x10 x11 x12) (.next (iR 0 4 []) (S18.L0 (i64.wrap (ia0 + 1)) (1)) []) (.next (iR 0 4 []) (S18.L0 (i64.wrap (ia0 + 1)) (ia1)) [])))))))))))))))))))))) (.brt (.brt (.brf (.ob (decide (0 <= ia0 /\ ia0 < (↑n2 : Int))) (.obp (F104_2 (jv3 (f6 x8.toNat)) (jv3 (f2 ia0.toNat)) = true -> ((-100000 : Int) <= jv1 (f6 x8.toNat) /\ jv1 (f6 x8.toNat) <= (100000 : Int)) /\ ((-100000 : Int) <= jv2 (f6 x8.toNat) /\ jv2 (f6 x8.toNat) <= (100000 : Int)) /\ ((0 : Int) <= jv3 (f6 x8.toNat) /\ jv3 (f6 x8.toNat) <= (200 : Int)) /\ ((0 : Int) <= F104_0 (jv3 (f6 x8.toNat)) (jv4 (f2 ia0.toNat)) /\ F104_0 (jv3 (f6 x8.toNat)) (jv4 (f2 ia0.toNat)) <= (200 : Int)) /\ ((0 : Int) <= F104_1 (jv3 (f6 x8.toNat)) (jv3 (f2 ia0.toNat)) /\ F104_1 (jv3 (f6 x8.toNat)) (jv3 (f2 ia0.toNat)) <= (200 : Int)) /\ ((-536870912 : Int) <= F105_0 (jv3 (f6 x8.toNat)) (jv0 (f2 ia0.toNat)) /\ F105_0 (jv3 (f6 x8.toNat)) (jv0 (f2 ia0.toNat)) <= (536870912 : Int)) /\ ((-536870912 : Int) <= F105_1 (jv3 (f6 x8.toNat)) (jv1 (f2 ia0.toNat)) /\ F105_1 (jv3 (f6 x8.toNat)) (jv1 (f2 ia0.toNat)) <= (536870912 : Int)) /\ ((0 : Int) <= F105_2 (jv3 (f6 x8.toNat)) (jv2 (f2 ia0.toNat)) /\ F105_2 (jv3 (f6 x8.toNat)) (jv2 (f2 ia0.toNat)) <= (1073741824 : Int)) /\ ((-100000 : Int) <= x9 /\ x9 <= (100000 : Int)) /\ ((-100000 : Int) <= x10 /\ x10 <= (100000 : Int)) /\ ((-100000 : Int) <= x11 /\ x11 <= (100000 : Int)) /\ (-100000 : Int) <= x12 /\ x12 <= (100000 : Int)) (.obt (.br (F60 (jv1 (f6 x8.toNat)) (jv2 (f6 x8.toNat)) (jv3 (f6 x8.toNat)) (jv0 (f2 ia0.toNat)) (jv1 (f2 ia0.toNat)) (jv2 (f2 ia0.toNat)) (jv3 (f2 ia0.toNat)) (jv4 (f2 ia0.toNat)) x9 x10 x11 x12) (.next (iR 0 4 []) (S18.L0 (i64.wrap (ia0 + 1)) (1)) []) (.next (iR 0 4 []) (S18.L0 (i64.wrap (ia0 + 1)) (ia1)) []))))))))))))))))))))))) (.ret (V.tup [vi ia1, vi 0])))
def m18 (n0 : Nat) (f0 : FnV) (n2 : Nat) (f2 : FnV) (n4 : Nat) (f4 : FnV) (n6 : Nat) (f6 : FnV) (x8 x9 x10 x11 x12 : Int) : RT S18 := .asm (true = true -> n6 <= 9223372036854775807) (.obp ((∀ (i : Nat), i < n0 -> (sv (hdV (f0 i))).size <= (9223372036854775807 : Nat)) /\ ∀ (i : Nat), i < n6 -> (sv (hdV (f6 i))).size <= (9223372036854775807 : Nat)) (.obt (.br (F50_0 n0 (elV tyR f0) n2 (elV tyT f2) n4 (elV tyF f4) n6 (elV tyC f6) x8 (↑n6 : Int) == 0) (.ob (F50_0 n0 (elV tyR f0) n2 (elV tyT f2) n4 (elV tyF f4) n6 (elV tyC f6) x8 (↑n6 : Int) == 0) (.obc (.obt (.br (!F58_0 x9 x10 x11 x12) (.brt (.ret (V.tup [vi 0, vi 7]))) (.bry (F50_0 n0 (elV tyR f0) n2 (elV tyT f2) n4 (elV tyF f4) n6 (elV tyC f6) x8 (↑n6 : Int) != 0) (.ob (decide (0 <= x8 /\ x8 < (↑n6 : Int))) (.obc (.obt (.enter [some (some 3), some (some 2), some (some 1), some (some 0)] (S18.L0 (0) (0)) []))))))))) (.brx (F50_0 n0 (elV tyR f0) n2 (elV tyT f2) n4 (elV tyF f4) n6 (elV tyC f6) x8 (↑n6 : Int) != 0) (.ret (V.tup [vi 0, vi (F50_0 n0 (elV tyR f0) n2 (elV tyT f2) n4 (elV tyF f4) n6 (elV tyC f6) x8 (↑n6 : Int))]))))))
theorem run18 (n0 : Nat) (f0 : FnV) (n2 : Nat) (f2 : FnV) (n4 : Nat) (f4 : FnV) (n6 : Nat) (f6 : FnV) (x8 x9 x10 x11 x12 : Int) : Fits ctB31 u18 (D18 n0 f0 n2 f2 n4 f4 n6 f6 x8 x9 x10 x11 x12) (rl18 n0 f0 n2 f2 n4 f4 n6 f6 x8 x9 x10 x11 x12) (m18 n0 f0 n2 f2 n4 f4 n6 f6 x8 x9 x10 x11 x12) (st18 n0 f0 n2 f2 n4 f4 n6 f6 x8 x9 x10 x11 x12) := ⟨⟨by kernel_rfl, by kernel_rfl⟩, fun s => by cases s <;> exact ⟨by kernel_rfl, by kernel_rfl⟩⟩
def d18 (n0 : Nat) (f0 : FnV) (n2 : Nat) (f2 : FnV) (n4 : Nat) (f4 : FnV) (n6 : Nat) (f6 : FnV) (x8 x9 x10 x11 x12 : Int) (ii : Nat) : Bool := F52_0 (jv1 (f6 x8.toNat)) (jv2 (f6 x8.toNat)) (jv3 (f6 x8.toNat)) (jv0 (f2 ii)) (jv1 (f2 ii)) (jv2 (f2 ii)) (jv3 (f2 ii)) (jv4 (f2 ii)) x9 x10 && (F52_0 (jv1 (f6 x8.toNat)) (jv2 (f6 x8.toNat)) (jv3 (f6 x8.toNat)) (jv0 (f2 ii)) (jv1 (f2 ii)) (jv2 (f2 ii)) (jv3 (f2 ii)) (jv4 (f2 ii)) x11 x10 && (F52_0 (jv1 (f6 x8.toNat)) (jv2 (f6 x8.toNat)) (jv3 (f6 x8.toNat)) (jv0 (f2 ii)) (jv1 (f2 ii)) (jv2 (f2 ii)) (jv3 (f2 ii)) (jv4 (f2 ii)) x11 x12 && F52_0 (jv1 (f6 x8.toNat)) (jv2 (f6 x8.toNat)) (jv3 (f6 x8.toNat)) (jv0 (f2 ii)) (jv1 (f2 ii)) (jv2 (f2 ii)) (jv3 (f2 ii)) (jv4 (f2 ii)) x9 x12))
def t18 (n0 : Nat) (f0 : FnV) (n2 : Nat) (f2 : FnV) (n4 : Nat) (f4 : FnV) (n6 : Nat) (f6 : FnV) (x8 x9 x10 x11 x12 : Int) (ii : Nat) : Bool := F60 (jv1 (f6 x8.toNat)) (jv2 (f6 x8.toNat)) (jv3 (f6 x8.toNat)) (jv0 (f2 ii)) (jv1 (f2 ii)) (jv2 (f2 ii)) (jv3 (f2 ii)) (jv4 (f2 ii)) x9 x10 x11 x12
def F18_0 (n0 : Nat) (f0 : FnV) (n2 : Nat) (f2 : FnV) (n4 : Nat) (f4 : FnV) (n6 : Nat) (f6 : FnV) (x8 x9 x10 x11 x12 : Int) : Int := bif F50_0 n0 (elV tyR f0) n2 (elV tyT f2) n4 (elV tyF f4) n6 (elV tyC f6) x8 (↑n6 : Int) != 0 then 0 else bif F58_0 x9 x10 x11 x12 then shadeF (d18 n0 f0 n2 f2 n4 f4 n6 f6 x8 x9 x10 x11 x12) (t18 n0 f0 n2 f2 n4 f4 n6 f6 x8 x9 x10 x11 x12) n2 else 0
def F18_1 (n0 : Nat) (f0 : FnV) (n2 : Nat) (f2 : FnV) (n4 : Nat) (f4 : FnV) (n6 : Nat) (f6 : FnV) (x8 x9 x10 x11 x12 : Int) : Int := bif F50_0 n0 (elV tyR f0) n2 (elV tyT f2) n4 (elV tyF f4) n6 (elV tyC f6) x8 (↑n6 : Int) != 0 then F50_0 n0 (elV tyR f0) n2 (elV tyT f2) n4 (elV tyF f4) n6 (elV tyC f6) x8 (↑n6 : Int) else bif F58_0 x9 x10 x11 x12 then 0 else 7
theorem c18 (n0 : Nat) (f0 : FnV) (n2 : Nat) (f2 : FnV) (n4 : Nat) (f4 : FnV) (n6 : Nat) (f6 : FnV) (x8 x9 x10 x11 x12 : Int) (hx : 0 <= x8 /\ x8 < (n6 : Int)) (hin : ∀ i, i < n2 -> TC (jv1 (f6 x8.toNat)) (jv2 (f6 x8.toNat)) (jv3 (f6 x8.toNat)) (jv0 (f2 i)) (jv1 (f2 i)) (jv2 (f2 i)) (jv3 (f2 i)) (jv4 (f2 i))) (hp : (-100000 <= x9 /\ x9 <= 100000) /\ (-100000 <= x10 /\ x10 <= 100000) /\ (-100000 <= x11 /\ x11 <= 100000) /\ (-100000 <= x12 /\ x12 <= 100000)) :
 ∀ i, i <= n2 -> exB i (d18 n0 f0 n2 f2 n4 f4 n6 f6 x8 x9 x10 x11 x12) = false -> ∀ o : Int, o = (bif exB i (t18 n0 f0 n2 f2 n4 f4 n6 f6 x8 x9 x10 x11 x12) then 1 else 0) -> Ev (st18 n0 f0 n2 f2 n4 f4 n6 f6 x8 x9 x10 x11 x12) (.L0 (i : Int) o) (.tup [.int .i64 (shadeF (d18 n0 f0 n2 f2 n4 f4 n6 f6 x8 x9 x10 x11 x12) (t18 n0 f0 n2 f2 n4 f4 n6 f6 x8 x9 x10 x11 x12) n2), .int .i64 0]) := by
 refine up_ind fun ii hi ih hd o ho => Ev.of rfl (evAsm1 fun hn => ?_)
 by_cases hlt : ii < n2
 ·have ih := ih hlt
  have hw := wrapS hlt hn
  have hdi : decide (0 <= (ii : Int) /\ (ii : Int) < (n2 : Int)) = true := dqt (by omega)
  have hob := fun hb => (hin ii hlt).refIn hb hp.1 hp.2.1 hp.2.2.1 hp.2.2.2
  have hD : d18 n0 f0 n2 f2 n4 f4 n6 f6 x8 x9 x10 x11 x12 ii = true -> shadeF (d18 n0 f0 n2 f2 n4 f4 n6 f6 x8 x9 x10 x11 x12) (t18 n0 f0 n2 f2 n4 f4 n6 f6 x8 x9 x10 x11 x12) n2 = 2 := fun h => by unfold shadeF; rw [exB_true ii hlt h]; rfl
  have hN1 : d18 n0 f0 n2 f2 n4 f4 n6 f6 x8 x9 x10 x11 x12 ii = false -> t18 n0 f0 n2 f2 n4 f4 n6 f6 x8 x9 x10 x11 x12 ii = true -> Ev (st18 n0 f0 n2 f2 n4 f4 n6 f6 x8 x9 x10 x11 x12) (.L0 (i64.wrap ((ii : Int) + 1)) 1) (.tup [.int .i64 (shadeF (d18 n0 f0 n2 f2 n4 f4 n6 f6 x8 x9 x10 x11 x12) (t18 n0 f0 n2 f2 n4 f4 n6 f6 x8 x9 x10 x11 x12) n2), .int .i64 0]) := fun h1 h2 => by
   rw [hw]
   exact ih (by rw [exB_succ, hd, h1]; rfl) 1 (by rw [exB_succ, h2, Bool.or_true]; rfl)
  have hN0 : d18 n0 f0 n2 f2 n4 f4 n6 f6 x8 x9 x10 x11 x12 ii = false -> t18 n0 f0 n2 f2 n4 f4 n6 f6 x8 x9 x10 x11 x12 ii = false -> Ev (st18 n0 f0 n2 f2 n4 f4 n6 f6 x8 x9 x10 x11 x12) (.L0 (i64.wrap ((ii : Int) + 1)) o) (.tup [.int .i64 (shadeF (d18 n0 f0 n2 f2 n4 f4 n6 f6 x8 x9 x10 x11 x12) (t18 n0 f0 n2 f2 n4 f4 n6 f6 x8 x9 x10 x11 x12) n2), .int .i64 0]) := fun h1 h2 => by
   rw [hw]
   exact ih (by rw [exB_succ, hd, h1]; rfl) o (by rw [exB_succ, h2, Bool.or_false]; exact ho)
  refine evBrT (dqt (by omega)) ?_
  generalize shadeF (d18 n0 f0 n2 f2 n4 f4 n6 f6 x8 x9 x10 x11 x12) (t18 n0 f0 n2 f2 n4 f4 n6 f6 x8 x9 x10 x11 x12) n2 = r at *
  unfold d18 at hD hN1 hN0
  unfold t18 at hN1 hN0
  clear ih hw ho hd
  rw [Int.toNat_natCast]
  generalize hc0 : F52_0 (jv1 (f6 x8.toNat)) (jv2 (f6 x8.toNat)) (jv3 (f6 x8.toNat)) (jv0 (f2 ii)) (jv1 (f2 ii)) (jv2 (f2 ii)) (jv3 (f2 ii)) (jv4 (f2 ii)) x9 x10 = c0 at *
  generalize hc1 : F52_0 (jv1 (f6 x8.toNat)) (jv2 (f6 x8.toNat)) (jv3 (f6 x8.toNat)) (jv0 (f2 ii)) (jv1 (f2 ii)) (jv2 (f2 ii)) (jv3 (f2 ii)) (jv4 (f2 ii)) x11 x10 = c1 at *
  generalize hc2 : F52_0 (jv1 (f6 x8.toNat)) (jv2 (f6 x8.toNat)) (jv3 (f6 x8.toNat)) (jv0 (f2 ii)) (jv1 (f2 ii)) (jv2 (f2 ii)) (jv3 (f2 ii)) (jv4 (f2 ii)) x11 x12 = c2 at *
  generalize hc3 : F52_0 (jv1 (f6 x8.toNat)) (jv2 (f6 x8.toNat)) (jv3 (f6 x8.toNat)) (jv0 (f2 ii)) (jv1 (f2 ii)) (jv2 (f2 ii)) (jv3 (f2 ii)) (jv4 (f2 ii)) x9 x12 = c3 at *
  generalize ht : F60 (jv1 (f6 x8.toNat)) (jv2 (f6 x8.toNat)) (jv3 (f6 x8.toNat)) (jv0 (f2 ii)) (jv1 (f2 ii)) (jv2 (f2 ii)) (jv3 (f2 ii)) (jv4 (f2 ii)) x9 x10 x11 x12 = t at *
  clear hc0 hc1 hc2 hc3 ht
  cases c0 <;> (repeat' (first | (exact evNext (hN1 rfl rfl)) | (exact evNext (hN0 rfl rfl)) | exact evRet (by rw [hD rfl]) | refine evObi ?_ | refine evObc ?_ | refine evObt ?_ | refine evOb rfl ?_ | refine evOb hdi ?_ | refine evObj (fun _ => hdi) ?_ | refine evObp hob ?_ | refine evBrt ?_ | refine evBrf ?_ | refine evBrT rfl ?_ | refine evBrF rfl ?_))
  all_goals (cases c1 <;> (repeat' (first | (exact evNext (hN1 rfl rfl)) | (exact evNext (hN0 rfl rfl)) | exact evRet (by rw [hD rfl]) | refine evObi ?_ | refine evObc ?_ | refine evObt ?_ | refine evOb rfl ?_ | refine evOb hdi ?_ | refine evObj (fun _ => hdi) ?_ | refine evObp hob ?_ | refine evBrt ?_ | refine evBrf ?_ | refine evBrT rfl ?_ | refine evBrF rfl ?_)))
  all_goals (cases c2 <;> (repeat' (first | (exact evNext (hN1 rfl rfl)) | (exact evNext (hN0 rfl rfl)) | exact evRet (by rw [hD rfl]) | refine evObi ?_ | refine evObc ?_ | refine evObt ?_ | refine evOb rfl ?_ | refine evOb hdi ?_ | refine evObj (fun _ => hdi) ?_ | refine evObp hob ?_ | refine evBrt ?_ | refine evBrf ?_ | refine evBrT rfl ?_ | refine evBrF rfl ?_)))
  all_goals (cases c3 <;> (repeat' (first | (exact evNext (hN1 rfl rfl)) | (exact evNext (hN0 rfl rfl)) | exact evRet (by rw [hD rfl]) | refine evObi ?_ | refine evObc ?_ | refine evObt ?_ | refine evOb rfl ?_ | refine evOb hdi ?_ | refine evObj (fun _ => hdi) ?_ | refine evObp hob ?_ | refine evBrt ?_ | refine evBrf ?_ | refine evBrT rfl ?_ | refine evBrF rfl ?_)))
  all_goals (cases t <;> (repeat' (first | (exact evNext (hN1 rfl rfl)) | (exact evNext (hN0 rfl rfl)) | exact evRet (by rw [hD rfl]) | refine evObi ?_ | refine evObc ?_ | refine evObt ?_ | refine evOb rfl ?_ | refine evOb hdi ?_ | refine evObj (fun _ => hdi) ?_ | refine evObp hob ?_ | refine evBrt ?_ | refine evBrf ?_ | refine evBrT rfl ?_ | refine evBrF rfl ?_)))
 ·have e : ii = n2 := by omega
  subst e
  refine evBrF (dqf (by omega)) (evRet ?_)
  unfold shadeF
  rw [hd, ho]; rfl
theorem ev18_0 (n0 : Nat) (f0 : FnV) (n2 : Nat) (f2 : FnV) (n4 : Nat) (f4 : FnV) (n6 : Nat) (f6 : FnV) (x8 x9 x10 x11 x12 : Int) (hp : SzOk n0 f0 /\ SzOk n6 f6) : evR (Ev (st18 n0 f0 n2 f2 n4 f4 n6 f6 x8 x9 x10 x11 x12)) (m18 n0 f0 n2 f2 n4 f4 n6 f6 x8 x9 x10 x11 x12) (.tup [.int .i64 (F18_0 n0 f0 n2 f2 n4 f4 n6 f6 x8 x9 x10 x11 x12), .int .i64 (F18_1 n0 f0 n2 f2 n4 f4 n6 f6 x8 x9 x10 x11 x12)]) := by
 refine evAsm1 fun h6 => evObp hp (evObt (evBr (fun h => evOb h (evObc (evObt (evBr (fun h2 => evBrt (evRet (by
  have h' : (F50_0 n0 (elV tyR f0) n2 (elV tyT f2) n4 (elV tyF f4) n6 (elV tyC f6) x8 (↑n6 : Int) != 0) = false := by rw [eq_of_beq h]; rfl
  unfold F18_0 F18_1; rw [h', tnF h2]; rfl))) (fun h2 => evBry ?_ ?_))))) (fun h => evBrx ?_ (evRet ?_))))
 ·rw [eq_of_beq h]; rfl
 ·have h' : (F50_0 n0 (elV tyR f0) n2 (elV tyT f2) n4 (elV tyF f4) n6 (elV tyC f6) x8 (↑n6 : Int) != 0) = false := by rw [eq_of_beq h]; rfl
  have e0 : F18_0 n0 f0 n2 f2 n4 f4 n6 f6 x8 x9 x10 x11 x12 = shadeF (d18 n0 f0 n2 f2 n4 f4 n6 f6 x8 x9 x10 x11 x12) (t18 n0 f0 n2 f2 n4 f4 n6 f6 x8 x9 x10 x11 x12) n2 := by unfold F18_0; rw [h', tnT h2]; rfl
  have e1 : F18_1 n0 f0 n2 f2 n4 f4 n6 f6 x8 x9 x10 x11 x12 = 0 := by unfold F18_1; rw [h', tnT h2]; rfl
  rw [e0, e1]
  have hc := chk50 (n0 := n0) (f0 := f0) (n2 := n2) (f2 := f2) (n4 := n4) (f4 := f4) (n6 := n6) (f6 := f6) (i := x8) (m := n6)
  have hz : ix1 (F24_2 n0 (elV tyR f0) n2 (elV tyT f2) n4 (elV tyF f4) n6 (elV tyC f6)) x8 n6 = 0 := by rw [← hc]; exact eq_of_beq h
  obtain ⟨hx, hin⟩ := sc_in hz
  have hq := patch_in (tnT h2)
  exact evOb (dqt hx) (evObc (evObt (evEnter (c18 _ _ _ _ _ _ _ _ _ _ _ _ _ hx hin ⟨hq.1, hq.2.1, hq.2.2.1, hq.2.2.2.1⟩ 0 (Nat.zero_le _) rfl 0 rfl))))
 ·rw [bne, h]; rfl
 ·have h' : (F50_0 n0 (elV tyR f0) n2 (elV tyT f2) n4 (elV tyF f4) n6 (elV tyC f6) x8 (↑n6 : Int) != 0) = true := by rw [bne, h]; rfl
  unfold F18_0 F18_1; rw [h']; rfl
theorem ev18 (n0 : Nat) (f0 : FnV) (n2 : Nat) (f2 : FnV) (n4 : Nat) (f4 : FnV) (n6 : Nat) (f6 : FnV) (x8 x9 x10 x11 x12 : Int) (hp : SzOk n0 (elV tyR f0) /\ SzOk n6 (elV tyC f6)) : evR (Ev (st18 n0 f0 n2 f2 n4 f4 n6 f6 x8 x9 x10 x11 x12)) (m18 n0 f0 n2 f2 n4 f4 n6 f6 x8 x9 x10 x11 x12) (.tup [.int .i64 (F18_0 n0 (elV tyR f0) n2 (elV tyT f2) n4 (elV tyF f4) n6 (elV tyC f6) x8 x9 x10 x11 x12), .int .i64 (F18_1 n0 (elV tyR f0) n2 (elV tyT f2) n4 (elV tyF f4) n6 (elV tyC f6) x8 x9 x10 x11 x12)]) := ev18_0 n0 f0 n2 f2 n4 f4 n6 f6 x8 x9 x10 x11 x12 hp
def C18 : PCon := mkC [.agg [.sl tyR, .sl tyT, .sl tyF, .sl tyC], .int .i64, .agg tp4] (fun
 | [.agg [.sl n0 f0, .sl n2 f2, .sl n4 f4, .sl n6 f6], .int _ x8, .agg [.int _ x9, .int _ x10, .int _ x11, .int _ x12]] => SzOk n0 f0 /\ SzOk n6 f6
 | _ => False) fun
 | [.agg [.sl n0 f0, .sl n2 f2, .sl n4 f4, .sl n6 f6], .int _ x8, .agg [.int _ x9, .int _ x10, .int _ x11, .int _ x12]] => .tup [.int .i64 (F18_0 n0 f0 n2 f2 n4 f4 n6 f6 x8 x9 x10 x11 x12), .int .i64 (F18_1 n0 f0 n2 f2 n4 f4 n6 f6 x8 x9 x10 x11 x12)]
 | _ => .any
theorem ok18 : (vP C18).Ok Tryz.prog 18 := mkE tabB31 Tryz.func18 (by kernel_rfl) fun ds hp => rfs (run18 ..) (ev18 _ _ _ _ _ _ _ _ _ _ _ _ _ hp)
inductive S16 where
 | L0 (ia0 : Int)
def inv16 (n0 : Nat) (f0 : FnV) (n2 : Nat) (f2 : FnV) (n4 : Nat) (f4 : FnV) (n6 : Nat) (f6 : FnV) (x8 x9 x10 : Int) : S16 -> Env × List O × Option Ex
 | .L0 ia0 => ([(11, vi ia0), (4, V.pl 0 0), (1, vi x8), (2, vi x9), (3, vi x10)], [O.cells [V.sl n0 (elV tyR f0), V.sl n2 (elV tyT f2), V.sl n4 (elV tyF f4), V.sl n6 (elV tyC f6)] 27], none)
def id16 : S16 -> JJ
 | .L0 ia0 => (0, [])
def rl16 (n0 : Nat) (f0 : FnV) (n2 : Nat) (f2 : FnV) (n4 : Nat) (f4 : FnV) (n6 : Nat) (f6 : FnV) (x8 x9 x10 : Int) : T (Leaf JJ) := runL JJ ctB31 u0 s16 [scV n0 f0 n2 f2 n4 f4 n6 f6, vi x8, vi x9, vi x10]
def lp16_0 (n0 : Nat) (f0 : FnV) (n2 : Nat) (f2 : FnV) (n4 : Nat) (f4 : FnV) (n6 : Nat) (f6 : FnV) (x8 x9 x10 : Int) (cx : List Cx) : Lp JJ := lpT (atT (rl16 n0 f0 n2 f2 n4 f4 n6 f6 x8 x9 x10) [true, false, false])
def lp16 (n0 : Nat) (f0 : FnV) (n2 : Nat) (f2 : FnV) (n4 : Nat) (f4 : FnV) (n6 : Nat) (f6 : FnV) (x8 x9 x10 : Int) : JJ -> Lp JJ
 | (0, cx) => lp16_0 n0 f0 n2 f2 n4 f4 n6 f6 x8 x9 x10 cx
 | (_, cx) => lp16_0 n0 f0 n2 f2 n4 f4 n6 f6 x8 x9 x10 cx
def D16 (n0 : Nat) (f0 : FnV) (n2 : Nat) (f2 : FnV) (n4 : Nat) (f4 : FnV) (n6 : Nat) (f6 : FnV) (x8 x9 x10 : Int) : LD JJ S16 := ⟨id16, lp16 n0 f0 n2 f2 n4 f4 n6 f6 x8 x9 x10, inv16 n0 f0 n2 f2 n4 f4 n6 f6 x8 x9 x10⟩
def st16 (n0 : Nat) (f0 : FnV) (n2 : Nat) (f2 : FnV) (n4 : Nat) (f4 : FnV) (n6 : Nat) (f6 : FnV) (x8 x9 x10 : Int) : S16 -> RT S16
 | .L0 ia0 => .asm (true = true -> n2 <= 9223372036854775807) (.br (decide (ia0 < (↑n2 : Int))) (.ob (decide (0 <= x8 /\ x8 < (↑n6 : Int))) (.ob (decide (0 <= ia0 /\ ia0 < (↑n2 : Int))) (.obc (.obt (.br (F52_0 (jv1 (f6 x8.toNat)) (jv2 (f6 x8.toNat)) (jv3 (f6 x8.toNat)) (jv0 (f2 ia0.toNat)) (jv1 (f2 ia0.toNat)) (jv2 (f2 ia0.toNat)) (jv3 (f2 ia0.toNat)) (jv4 (f2 ia0.toNat)) x9 x10) (.ret (V.tup [vi ia0, vi 0])) (.next [some (some 0)] (S16.L0 (i64.wrap (ia0 + 1))) [])))))) (.ret (V.tup [vi (-1), vi 0])))
def m16 (n0 : Nat) (f0 : FnV) (n2 : Nat) (f2 : FnV) (n4 : Nat) (f4 : FnV) (n6 : Nat) (f6 : FnV) (x8 x9 x10 : Int) : RT S16 := .asm (true = true -> n6 <= 9223372036854775807) (.obp ((∀ (i : Nat), i < n0 -> (sv (hdV (f0 i))).size <= (9223372036854775807 : Nat)) /\ ∀ (i : Nat), i < n6 -> (sv (hdV (f6 i))).size <= (9223372036854775807 : Nat)) (.obt (.br (F50_0 n0 (elV tyR f0) n2 (elV tyT f2) n4 (elV tyF f4) n6 (elV tyC f6) x8 (↑n6 : Int) == 0) (.ob (F50_0 n0 (elV tyR f0) n2 (elV tyT f2) n4 (elV tyF f4) n6 (elV tyC f6) x8 (↑n6 : Int) == 0) (.ob (F50_0 n0 (elV tyR f0) n2 (elV tyT f2) n4 (elV tyF f4) n6 (elV tyC f6) x8 (↑n6 : Int) == 0) (.obc (.obt (.br (!F51 2 (elV tp1 (secF [vi x9, vi x10] 0 1))) (.brt (.ret (V.tup [vi 0, vi 7]))) (.bry (F50_0 n0 (elV tyR f0) n2 (elV tyT f2) n4 (elV tyF f4) n6 (elV tyC f6) x8 (↑n6 : Int) != 0) (.enter [some (some 0)] (S16.L0 (0)) []))))))) (.brx (F50_0 n0 (elV tyR f0) n2 (elV tyT f2) n4 (elV tyF f4) n6 (elV tyC f6) x8 (↑n6 : Int) != 0) (.ret (V.tup [vi 0, vi (F50_0 n0 (elV tyR f0) n2 (elV tyT f2) n4 (elV tyF f4) n6 (elV tyC f6) x8 (↑n6 : Int))]))))))
theorem run16 (n0 : Nat) (f0 : FnV) (n2 : Nat) (f2 : FnV) (n4 : Nat) (f4 : FnV) (n6 : Nat) (f6 : FnV) (x8 x9 x10 : Int) : Fits ctB31 u0 (D16 n0 f0 n2 f2 n4 f4 n6 f6 x8 x9 x10) (rl16 n0 f0 n2 f2 n4 f4 n6 f6 x8 x9 x10) (m16 n0 f0 n2 f2 n4 f4 n6 f6 x8 x9 x10) (st16 n0 f0 n2 f2 n4 f4 n6 f6 x8 x9 x10) := ⟨⟨by kernel_rfl, by kernel_rfl⟩, fun s => by cases s <;> exact ⟨by kernel_rfl, by kernel_rfl⟩⟩
def F16_0 (n0 : Nat) (f0 : FnV) (n2 : Nat) (f2 : FnV) (n4 : Nat) (f4 : FnV) (n6 : Nat) (f6 : FnV) (x8 x9 x10 : Int) : Int := bif F50_0 n0 (elV tyR f0) n2 (elV tyT f2) n4 (elV tyF f4) n6 (elV tyC f6) x8 (↑n6 : Int) != 0 then 0 else bif F51 2 (elV tp1 (secF [vi x9, vi x10] 0 1)) then idx n2 (fun ii => F52_0 (jv1 (f6 x8.toNat)) (jv2 (f6 x8.toNat)) (jv3 (f6 x8.toNat)) (jv0 (f2 ii)) (jv1 (f2 ii)) (jv2 (f2 ii)) (jv3 (f2 ii)) (jv4 (f2 ii)) x9 x10) else 0
def F16_1 (n0 : Nat) (f0 : FnV) (n2 : Nat) (f2 : FnV) (n4 : Nat) (f4 : FnV) (n6 : Nat) (f6 : FnV) (x8 x9 x10 : Int) : Int := bif F50_0 n0 (elV tyR f0) n2 (elV tyT f2) n4 (elV tyF f4) n6 (elV tyC f6) x8 (↑n6 : Int) != 0 then F50_0 n0 (elV tyR f0) n2 (elV tyT f2) n4 (elV tyF f4) n6 (elV tyC f6) x8 (↑n6 : Int) else bif F51 2 (elV tp1 (secF [vi x9, vi x10] 0 1)) then 0 else 7
theorem c16 (n0 : Nat) (f0 : FnV) (n2 : Nat) (f2 : FnV) (n4 : Nat) (f4 : FnV) (n6 : Nat) (f6 : FnV) (x8 x9 x10 : Int) (hx : 0 <= x8 /\ x8 < (n6 : Int)) : ∀ i, i <= n2 -> (∀ j, j < i -> (F52_0 (jv1 (f6 x8.toNat)) (jv2 (f6 x8.toNat)) (jv3 (f6 x8.toNat)) (jv0 (f2 j)) (jv1 (f2 j)) (jv2 (f2 j)) (jv3 (f2 j)) (jv4 (f2 j)) x9 x10) = false) -> Ev (st16 n0 f0 n2 f2 n4 f4 n6 f6 x8 x9 x10) (.L0 (i : Int)) (.tup [.int .i64 (idx n2 fun ii => F52_0 (jv1 (f6 x8.toNat)) (jv2 (f6 x8.toNat)) (jv3 (f6 x8.toNat)) (jv0 (f2 ii)) (jv1 (f2 ii)) (jv2 (f2 ii)) (jv3 (f2 ii)) (jv4 (f2 ii)) x9 x10), .int .i64 0]) := by
 refine up_ind fun i hi ih hd => Ev.of rfl (evAsm1 fun hn => ?_)
 by_cases hlt : i < n2
 ·have hw := wrapS hlt hn
  refine evBrT (dqt (by omega)) (evOb (dqt hx) (evOb (dqt (by omega)) (evObc (evObt (evBr (fun h => evRet ?_) (fun h => evNext ?_))))))
  ·rw [idx_some (p := fun ii => F52_0 (jv1 (f6 x8.toNat)) (jv2 (f6 x8.toNat)) (jv3 (f6 x8.toNat)) (jv0 (f2 ii)) (jv1 (f2 ii)) (jv2 (f2 ii)) (jv3 (f2 ii)) (jv4 (f2 ii)) x9 x10) h hlt hd]; rfl
  ·rw [hw]
   refine ih hlt fun j hj => ?_
   by_cases e : j = i
   ·rw [e]; exact h
   ·exact hd j (by omega)
 ·have e : i = n2 := by omega
  subst e
  refine evBrF (dqf (by omega)) (evRet ?_)
  rw [idx_none (p := fun ii => F52_0 (jv1 (f6 x8.toNat)) (jv2 (f6 x8.toNat)) (jv3 (f6 x8.toNat)) (jv0 (f2 ii)) (jv1 (f2 ii)) (jv2 (f2 ii)) (jv3 (f2 ii)) (jv4 (f2 ii)) x9 x10) hd]
theorem ev16_0 (n0 : Nat) (f0 : FnV) (n2 : Nat) (f2 : FnV) (n4 : Nat) (f4 : FnV) (n6 : Nat) (f6 : FnV) (x8 x9 x10 : Int) (hp : SzOk n0 f0 /\ SzOk n6 f6) : evR (Ev (st16 n0 f0 n2 f2 n4 f4 n6 f6 x8 x9 x10)) (m16 n0 f0 n2 f2 n4 f4 n6 f6 x8 x9 x10) (.tup [.int .i64 (F16_0 n0 f0 n2 f2 n4 f4 n6 f6 x8 x9 x10), .int .i64 (F16_1 n0 f0 n2 f2 n4 f4 n6 f6 x8 x9 x10)]) := by
 refine evAsm1 fun h6 => evObp hp (evObt (evBr (fun h => evOb h (evOb h (evObc (evObt (evBr (fun h2 => evBrt (evRet (by
  have h' : (F50_0 n0 (elV tyR f0) n2 (elV tyT f2) n4 (elV tyF f4) n6 (elV tyC f6) x8 (↑n6 : Int) != 0) = false := by rw [eq_of_beq h]; rfl
  unfold F16_0 F16_1; rw [h', tnF h2]; rfl))) (fun h2 => evBry ?_ (evEnter ?_))))))) (fun h => evBrx ?_ (evRet ?_))))
 ·rw [eq_of_beq h]; rfl
 ·have h' : (F50_0 n0 (elV tyR f0) n2 (elV tyT f2) n4 (elV tyF f4) n6 (elV tyC f6) x8 (↑n6 : Int) != 0) = false := by rw [eq_of_beq h]; rfl
  have e0 : F16_0 n0 f0 n2 f2 n4 f4 n6 f6 x8 x9 x10 = idx n2 (fun ii => F52_0 (jv1 (f6 x8.toNat)) (jv2 (f6 x8.toNat)) (jv3 (f6 x8.toNat)) (jv0 (f2 ii)) (jv1 (f2 ii)) (jv2 (f2 ii)) (jv3 (f2 ii)) (jv4 (f2 ii)) x9 x10) := by unfold F16_0; rw [h', tnT h2]; rfl
  have e1 : F16_1 n0 f0 n2 f2 n4 f4 n6 f6 x8 x9 x10 = 0 := by unfold F16_1; rw [h', tnT h2]; rfl
  rw [e0, e1]
  have hc := chk50 (n0 := n0) (f0 := f0) (n2 := n2) (f2 := f2) (n4 := n4) (f4 := f4) (n6 := n6) (f6 := f6) (i := x8) (m := n6)
  have hz : ix1 (F24_2 n0 (elV tyR f0) n2 (elV tyT f2) n4 (elV tyF f4) n6 (elV tyC f6)) x8 n6 = 0 := by rw [← hc]; exact eq_of_beq h
  exact c16 _ _ _ _ _ _ _ _ _ _ _ (sc_in hz).1 0 (Nat.zero_le _) (fun j hj => by omega)
 ·rw [bne, h]; rfl
 ·have h' : (F50_0 n0 (elV tyR f0) n2 (elV tyT f2) n4 (elV tyF f4) n6 (elV tyC f6) x8 (↑n6 : Int) != 0) = true := by rw [bne, h]; rfl
  unfold F16_0 F16_1; rw [h']; rfl
theorem ev16 (n0 : Nat) (f0 : FnV) (n2 : Nat) (f2 : FnV) (n4 : Nat) (f4 : FnV) (n6 : Nat) (f6 : FnV) (x8 x9 x10 : Int) (hp : SzOk n0 (elV tyR f0) /\ SzOk n6 (elV tyC f6)) : evR (Ev (st16 n0 f0 n2 f2 n4 f4 n6 f6 x8 x9 x10)) (m16 n0 f0 n2 f2 n4 f4 n6 f6 x8 x9 x10) (.tup [.int .i64 (F16_0 n0 (elV tyR f0) n2 (elV tyT f2) n4 (elV tyF f4) n6 (elV tyC f6) x8 x9 x10), .int .i64 (F16_1 n0 (elV tyR f0) n2 (elV tyT f2) n4 (elV tyF f4) n6 (elV tyC f6) x8 x9 x10)]) := ev16_0 n0 f0 n2 f2 n4 f4 n6 f6 x8 x9 x10 hp
def C16 : PCon := mkC [.agg [.sl tyR, .sl tyT, .sl tyF, .sl tyC], .int .i64, .int .i64, .int .i64] (fun
 | [.agg [.sl n0 f0, .sl n2 f2, .sl n4 f4, .sl n6 f6], .int _ x8, .int _ x9, .int _ x10] => SzOk n0 f0 /\ SzOk n6 f6
 | _ => False) fun
 | [.agg [.sl n0 f0, .sl n2 f2, .sl n4 f4, .sl n6 f6], .int _ x8, .int _ x9, .int _ x10] => .tup [.int .i64 (F16_0 n0 f0 n2 f2 n4 f4 n6 f6 x8 x9 x10), .int .i64 (F16_1 n0 f0 n2 f2 n4 f4 n6 f6 x8 x9 x10)]
 | _ => .any
theorem ok16 : (vP C16).Ok Tryz.prog 16 := mkE tabB31 Tryz.func16 (by kernel_rfl) fun ds hp => rfs (run16 ..) (ev16 _ _ _ _ _ _ _ _ _ _ _ hp)
end
end Go.Dx
namespace Go.Dx
open Go.IntKind (i64 u64 u8)
open Go.Sx
noncomputable section
theorem idx_congr {n : Nat} {p q : Nat -> Bool} (h : ∀ i, i < n -> p i = q i) : idx n p = idx n q := by
 rcases idx_ex (n := n) (p := p) with ⟨h1, h2⟩ | ⟨j, h1, h2, h3, h4⟩
 ·rw [h1, idx_none fun i hi => by rw [← h i hi]; exact h2 i hi]
 ·rw [h2, idx_some (by rw [← h j h1]; exact h3) h1 fun l hl => by rw [← h l (by omega)]; exact h4 l hl]
theorem selA {e : Int} {p : Bool} {v v' : Int} (h : e = 0 -> p = false -> v = v') : (bif e != 0 then 0 else bif p then 0 else v) = (bif e != 0 then 0 else bif !p then v' else 0) := by
 by_cases he : e = 0
 ·subst he
  cases p with
  | true => rfl
  | false => exact h rfl rfl
 ·have h2 : (e != 0) = true := by simpa using he
  rw [h2]; rfl
theorem selB (e : Int) (p : Bool) : (bif e != 0 then e else bif p then 7 else 0) = (bif e != 0 then e else bif !p then 0 else (7 : Int)) := by
 cases e != 0 <;> cases p <;> rfl
section
variable {n0 : Nat} {f0 : Nat -> List V} {n2 : Nat} {f2 : Nat -> List V} {n4 : Nat} {f4 : Nat -> List V} {n6 : Nat} {f6 : Nat -> List V}
theorem shaded_law (x8 x9 x10 : Int) : F15_0 n0 f0 n2 f2 n4 f4 n6 f6 x8 x9 x10 = F16_0 n0 f0 n2 f2 n4 f4 n6 f6 x8 x9 x10 /\ F15_1 n0 f0 n2 f2 n4 f4 n6 f6 x8 x9 x10 = F16_1 n0 f0 n2 f2 n4 f4 n6 f6 x8 x9 x10 := by
 have hc := chk2 (n0 := n0) (f0 := f0) (n2 := n2) (f2 := f2) (n4 := n4) (f4 := f4) (n6 := n6) (f6 := f6) (i := x8) (m := n6) (fun h => by have := (valid h).l6; omega)
 have hd := chk50 (n0 := n0) (f0 := f0) (n2 := n2) (f2 := f2) (n4 := n4) (f4 := f4) (n6 := n6) (f6 := f6) (i := x8) (m := n6)
 unfold F15_0 F16_0 F15_1 F16_1
 simp only [show (1 + 1 - 0) / 2 = 1 from rfl]
 rw [hc, hd, wild_placed]
 generalize hP : F51 2 _ = P
 refine ⟨?_, ?_⟩
 ·have := selA (e := ix1 (F24_2 n0 (elV tyR f0) n2 (elV tyT f2) n4 (elV tyF f4) n6 (elV tyC f6)) x8 n6) (p := !P) (v := F46 n2 (elV tyT f2) (elV tyC f6) x8 x9 x10) (v' := idx n2 (fun ii => F52_0 (jv1 (f6 x8.toNat)) (jv2 (f6 x8.toNat)) (jv3 (f6 x8.toNat)) (jv0 (f2 ii)) (jv1 (f2 ii)) (jv2 (f2 ii)) (jv3 (f2 ii)) (jv4 (f2 ii)) x9 x10)) (fun he hp => by
   rw [Bool.not_eq_false'] at hp
   have hq := pt_in (hP.trans hp)
   unfold F46
   refine idx_congr fun i hi => ?_
   exact ((sc_in he).2 i hi).hasE hq.1 hq.2)
  rw [Bool.not_not] at this
  exact this
 ·have := selB (ix1 (F24_2 n0 (elV tyR f0) n2 (elV tyT f2) n4 (elV tyF f4) n6 (elV tyC f6)) x8 n6) (!P)
  rw [Bool.not_not] at this
  exact this
theorem all4 {p : Nat -> Bool} : (!exB 4 fun i => !p i) = (p 0 && (p 1 && (p 2 && p 3))) := by
 have e : exB 4 (fun i => !p i) = (!p 0 || (!p 1 || (!p 2 || !p 3))) := by
  rw [exB_succ, exB_succ, exB_succ, exB_succ]
  rw [show exB 0 (fun i => !p i) = false from rfl]
  cases p 0 <;> cases p 1 <;> cases p 2 <;> cases p 3 <;> rfl
 rw [e]
 cases p 0 <;> cases p 1 <;> cases p 2 <;> cases p 3 <;> rfl
theorem shade_law (x8 x9 x10 x11 x12 : Int) : F17_0 n0 f0 n2 f2 n4 f4 n6 f6 x8 x9 x10 x11 x12 = F18_0 n0 f0 n2 f2 n4 f4 n6 f6 x8 x9 x10 x11 x12 /\ F17_1 n0 f0 n2 f2 n4 f4 n6 f6 x8 x9 x10 x11 x12 = F18_1 n0 f0 n2 f2 n4 f4 n6 f6 x8 x9 x10 x11 x12 := by
 have hc := chk2 (n0 := n0) (f0 := f0) (n2 := n2) (f2 := f2) (n4 := n4) (f4 := f4) (n6 := n6) (f6 := f6) (i := x8) (m := n6) (fun h => by have := (valid h).l6; omega)
 have hd := chk50 (n0 := n0) (f0 := f0) (n2 := n2) (f2 := f2) (n4 := n4) (f4 := f4) (n6 := n6) (f6 := f6) (i := x8) (m := n6)
 unfold F17_0 F18_0 F17_1 F18_1
 rw [hc, hd, rough_eq]
 generalize hP : F58_0 x9 x10 x11 x12 = P
 refine ⟨?_, ?_⟩
 ·have := selA (e := ix1 (F24_2 n0 (elV tyR f0) n2 (elV tyT f2) n4 (elV tyF f4) n6 (elV tyC f6)) x8 n6) (p := !P) (v := bestF (d17 n0 f0 n2 f2 n4 f4 n6 f6 x8 x9 x10 x11 x12) (t17 n0 f0 n2 f2 n4 f4 n6 f6 x8 x9 x10 x11 x12) n2) (v' := shadeF (d18 n0 f0 n2 f2 n4 f4 n6 f6 x8 x9 x10 x11 x12) (t18 n0 f0 n2 f2 n4 f4 n6 f6 x8 x9 x10 x11 x12) n2) (fun he hp => by
   rw [Bool.not_eq_false'] at hp
   have hq := patch_in (hP.trans hp)
   rw [best_shade]
   unfold shadeF
   have e1 : exB n2 (d17 n0 f0 n2 f2 n4 f4 n6 f6 x8 x9 x10 x11 x12) = exB n2 (d18 n0 f0 n2 f2 n4 f4 n6 f6 x8 x9 x10 x11 x12) := exB_congr fun i hi => by
    have t := (sc_in he).2 i hi
    unfold d17 d18 F55_0 F108
    rw [idx_geq]
    rw [← t.hasE hq.1 hq.2.1, ← t.hasE hq.2.2.1 hq.2.1, ← t.hasE hq.2.2.1 hq.2.2.2.1, ← t.hasE hq.1 hq.2.2.2.1]
    exact all4
   have e2 : exB n2 (t17 n0 f0 n2 f2 n4 f4 n6 f6 x8 x9 x10 x11 x12) = exB n2 (t18 n0 f0 n2 f2 n4 f4 n6 f6 x8 x9 x10 x11 x12) := exB_congr fun i hi => ((sc_in he).2 i hi).touch
   rw [e1, e2])
  rw [Bool.not_not] at this
  exact this
 ·have := selB (ix1 (F24_2 n0 (elV tyR f0) n2 (elV tyT f2) n4 (elV tyF f4) n6 (elV tyC f6)) x8 n6) (!P)
  rw [Bool.not_not] at this
  exact this
end
end
end Go.Dx
namespace Go.Dx
open Go.IntKind (i64 u64 u8)
open Go.Sx Go.Proofs
noncomputable section
def ctB32 : CTab := (19, .con C19) :: (17, .con C17) :: (18, .con C18) :: (16, .con C16) :: ctB31
theorem tabB32 : TabOk Tryz.prog eqs its ctB32 := .con ok19 (.con ok17 (.con ok18 (.con ok16 (tabB31))))
def m3 (n0 : Nat) (f0 : FnV) (n2 : Nat) (f2 : FnV) (n4 : Nat) (f4 : FnV) (n6 : Nat) (f6 : FnV) (x8 x9 x10 x11 x12 x13 x14 : Int) : RT Empty := .obp ((∀ (i : Nat), i < n0 -> (sv (hdV (f0 i))).size <= (9223372036854775807 : Nat)) /\ ∀ (i : Nat), i < n6 -> (sv (hdV (f6 i))).size <= (9223372036854775807 : Nat)) (.obt (.obp ((∀ (i : Nat), i < n0 -> (sv (hdV (f0 i))).size <= (9223372036854775807 : Nat)) /\ ∀ (i : Nat), i < n6 -> (sv (hdV (f6 i))).size <= (9223372036854775807 : Nat)) (.obt (.obp ((∀ (i : Nat), i < n0 -> (sv (hdV (f0 i))).size <= (9223372036854775807 : Nat)) /\ ∀ (i : Nat), i < n6 -> (sv (hdV (f6 i))).size <= (9223372036854775807 : Nat)) (.obt (.obp ((∀ (i : Nat), i < n0 -> (sv (hdV (f0 i))).size <= (9223372036854775807 : Nat)) /\ ∀ (i : Nat), i < n6 -> (sv (hdV (f6 i))).size <= (9223372036854775807 : Nat)) (.obt (.obi (.obi (.obi (.obi (.obi (.obi (.obi (.obi (.obi (.br (bif bif bif F15_0 n0 (elV tyR f0) n2 (elV tyT f2) n4 (elV tyF f4) n6 (elV tyC f6) x8 x9 x10 == F16_0 n0 (elV tyR f0) n2 (elV tyT f2) n4 (elV tyF f4) n6 (elV tyC f6) x8 x9 x10 then F15_1 n0 (elV tyR f0) n2 (elV tyT f2) n4 (elV tyF f4) n6 (elV tyC f6) x8 x9 x10 == F16_1 n0 (elV tyR f0) n2 (elV tyT f2) n4 (elV tyF f4) n6 (elV tyC f6) x8 x9 x10 else false then F17_0 n0 (elV tyR f0) n2 (elV tyT f2) n4 (elV tyF f4) n6 (elV tyC f6) x8 x11 x12 x13 x14 == F18_0 n0 (elV tyR f0) n2 (elV tyT f2) n4 (elV tyF f4) n6 (elV tyC f6) x8 x11 x12 x13 x14 else false then F17_1 n0 (elV tyR f0) n2 (elV tyT f2) n4 (elV tyF f4) n6 (elV tyC f6) x8 x11 x12 x13 x14 == F18_1 n0 (elV tyR f0) n2 (elV tyT f2) n4 (elV tyF f4) n6 (elV tyC f6) x8 x11 x12 x13 x14 else false) (.obc (.obt (.ret (V.bool true)))) (.ret (V.kb false)))))))))))))))))))
theorem run3 (n0 : Nat) (f0 : FnV) (n2 : Nat) (f2 : FnV) (n4 : Nat) (f4 : FnV) (n6 : Nat) (f6 : FnV) (x8 x9 x10 x11 x12 x13 x14 : Int) : Fit noD (runL JJ ctB32 u0 s3 [scV n0 f0 n2 f2 n4 f4 n6 f6, V.agg [vi x8, vi x9, vi x10, vi x11, vi x12, vi x13, vi x14]]) (m3 n0 f0 n2 f2 n4 f4 n6 f6 x8 x9 x10 x11 x12 x13 x14) := ⟨by kernel_rfl, by kernel_rfl⟩
def F3_0 (n0 : Nat) (f0 : FnV) (n2 : Nat) (f2 : FnV) (n4 : Nat) (f4 : FnV) (n6 : Nat) (f6 : FnV) (x8 x9 x10 x11 x12 x13 x14 : Int) : Bool := bif bif bif bif F15_0 n0 (elV tyR f0) n2 (elV tyT f2) n4 (elV tyF f4) n6 (elV tyC f6) x8 x9 x10 == F16_0 n0 (elV tyR f0) n2 (elV tyT f2) n4 (elV tyF f4) n6 (elV tyC f6) x8 x9 x10 then F15_1 n0 (elV tyR f0) n2 (elV tyT f2) n4 (elV tyF f4) n6 (elV tyC f6) x8 x9 x10 == F16_1 n0 (elV tyR f0) n2 (elV tyT f2) n4 (elV tyF f4) n6 (elV tyC f6) x8 x9 x10 else false then F17_0 n0 (elV tyR f0) n2 (elV tyT f2) n4 (elV tyF f4) n6 (elV tyC f6) x8 x11 x12 x13 x14 == F18_0 n0 (elV tyR f0) n2 (elV tyT f2) n4 (elV tyF f4) n6 (elV tyC f6) x8 x11 x12 x13 x14 else false then F17_1 n0 (elV tyR f0) n2 (elV tyT f2) n4 (elV tyF f4) n6 (elV tyC f6) x8 x11 x12 x13 x14 == F18_1 n0 (elV tyR f0) n2 (elV tyT f2) n4 (elV tyF f4) n6 (elV tyC f6) x8 x11 x12 x13 x14 else false then true else false
def R3 (n0 : Nat) (f0 : FnV) (n2 : Nat) (f2 : FnV) (n4 : Nat) (f4 : FnV) (n6 : Nat) (f6 : FnV) (x8 x9 x10 x11 x12 x13 x14 : Int) : V := .bool (F3_0 n0 f0 n2 f2 n4 f4 n6 f6 x8 x9 x10 x11 x12 x13 x14)
theorem ev3 (n0 : Nat) (f0 : FnV) (n2 : Nat) (f2 : FnV) (n4 : Nat) (f4 : FnV) (n6 : Nat) (f6 : FnV) (x8 x9 x10 x11 x12 x13 x14 : Int) (hp : SzOk n0 f0 /\ SzOk n6 f6) : evR noE (m3 n0 f0 n2 f2 n4 f4 n6 f6 x8 x9 x10 x11 x12 x13 x14) (R3 n0 f0 n2 f2 n4 f4 n6 f6 x8 x9 x10 x11 x12 x13 x14) := evObp (by first | assumption | (exact hp)) (evObt (evObp (by first | assumption | (exact hp)) (evObt (evObp (by first | assumption | (exact hp)) (evObt (evObp (by first | assumption | (exact hp)) (evObt (evObi (evObi (evObi (evObi (evObi (evObi (evObi (evObi (evObi (evBr (fun h0 => evObc (evObt (evRet (by unfold R3 F3_0; try rw [h0]; rfl)))) (fun h0 => evRet (by unfold R3 F3_0; try rw [h0]; rfl)))))))))))))))))))
theorem law3 (n0 : Nat) (f0 : FnV) (n2 : Nat) (f2 : FnV) (n4 : Nat) (f4 : FnV) (n6 : Nat) (f6 : FnV) (x8 x9 x10 x11 x12 x13 x14 : Int) : F3_0 n0 f0 n2 f2 n4 f4 n6 f6 x8 x9 x10 x11 x12 x13 x14 = true := by
 unfold F3_0
 rw [(shaded_law x8 x9 x10).1, (shaded_law x8 x9 x10).2, (shade_law x8 x11 x12 x13 x14).1, (shade_law x8 x11 x12 x13 x14).2]
 simp only [bne_self_eq_false, BEq.rfl, Bool.not_true, cond_true, cond_false]
theorem evl3 (n0 : Nat) (f0 : FnV) (n2 : Nat) (f2 : FnV) (n4 : Nat) (f4 : FnV) (n6 : Nat) (f6 : FnV) (x8 x9 x10 x11 x12 x13 x14 : Int) (hp : SzOk n0 f0 /\ SzOk n6 f6) : evR noE (m3 n0 f0 n2 f2 n4 f4 n6 f6 x8 x9 x10 x11 x12 x13 x14) (.bool true) := by
 have h := ev3 n0 f0 n2 f2 n4 f4 n6 f6 x8 x9 x10 x11 x12 x13 x14 hp
 unfold R3 at h
 rw [law3 n0 f0 n2 f2 n4 f4 n6 f6 x8 x9 x10 x11 x12 x13 x14] at h
 exact h
def tys3 : List Ty := [.agg [.sl tyR, .sl tyT, .sl tyF, .sl tyC], .agg [.int .i64, .int .i64, .int .i64, .int .i64, .int .i64, .int .i64, .int .i64]]
theorem ok3 : (vP (lawC tys3)).Ok Tryz.prog 3 := mkE tabB32 Tryz.func3 (by kernel_rfl) fun ds hp => rf0 (run3 ..) (evl3 _ _ _ _ _ _ _ _ _ _ _ _ _ _ _ (by have h : szTys [.agg [.sl tyR, .sl tyT, .sl tyF, .sl tyC], .agg [.int .i64, .int .i64, .int .i64, .int .i64, .int .i64, .int .i64, .int .i64]] _ := hp; exact ⟨fun i hi => (h.1.1 i hi).1, fun i hi => (h.1.2.2.2.1 i hi).1⟩))
end
end Go.Dx
