/- Part 6 of a proof: an evaluator of code with its soundness, contracts of functions, and plain facts of what they compute. No conditions. -/
import Derived.Test.YtkdokmjehblpoaaGreatDoorPa5
namespace Go.Dx
open Go.IntKind (i64 u64 u8)
open Go.Sx
noncomputable section
set_option linter.unusedVariables false
set_option linter.unusedSimpArgs false
theorem patch_in {a b c d : Int} (h : F58_0 a b c d = true) : (-100000 <= a /\ a <= 100000) /\ (-100000 <= b /\ b <= 100000) /\ (-100000 <= c /\ c <= 100000) /\ (-100000 <= d /\ d <= 100000) /\ a <= c /\ b <= d := by
  unfold F58_0 at h
  cases hp : F51 4 (elV tp1 (secF [vi a, vi b, vi c, vi d] 0 ((1 + 1 + 1 + 1 - 0) / 4))) with
  | false => rw [hp] at h; cases h
  | true =>
    rw [hp, cond_true] at h
    by_cases h1 : a <= c
    · rw [decide_eq_true h1, cond_true] at h
      have h2 := of_decide_eq_true h
      unfold F51 at hp
      exact ⟨from_in (allB_ok hp 0 (by omega)), from_in (allB_ok hp 1 (by omega)), from_in (allB_ok hp 2 (by omega)), from_in (allB_ok hp 3 (by omega)), h1, h2⟩
    · rw [decide_eq_false h1] at h; cases h
theorem pt_in {x y : Int} (h : ptOk x y = true) : (-100000 <= x /\ x <= 100000) /\ (-100000 <= y /\ y <= 100000) := by
  unfold ptOk F51 at h
  exact ⟨from_in (allB_ok h 0 (by omega)), from_in (allB_ok h 1 (by omega))⟩
structure RoadIn (n : Nat) (f : Nat -> List V) (w : Int) : Prop where
  two : 2 <= n
  eight : n <= 8
  pts : ∀ j, j < n -> (-100000 <= iv (hdV (f j)) /\ iv (hdV (f j)) <= 100000) /\ (-100000 <= iv (hdV (tlV (f j))) /\ iv (hdV (tlV (f j))) <= 100000)
  adj : ∀ j, j + 1 < n -> eqP f (j + 1) j = false
  w1 : 100 <= w
  w2 : w <= 30000
theorem road_in {n0 : Nat} {f0 : Nat -> List V} {i : Nat} (h : cR n0 f0 i = 0) : RoadIn (lenV (hdV (tlV (tlV (f0 i))))) (fun j => views tp2 (atV (hdV (tlV (tlV (f0 i)))) j)) (iv (hdV (tlV (tlV (tlV (f0 i)))))) := by
  have h' : F70 n0 (elV tyR f0) (i : Int) = 0 := h
  unfold F70 at h'
  simp only [Int.toNat_natCast] at h'
  cases hn : F122 (sv (hdV (elV tyR f0 i))) with
  | false => rw [hn] at h'; cases h'
  | true =>
    rw [hn, Bool.not_true, cond_false] at h'
    cases hd : exB i (fun k => (sv (hdV (elV tyR f0 k))).toList == (sv (hdV (elV tyR f0 i))).toList) with
    | true => rw [hd] at h'; cases h'
    | false =>
      rw [hd, cond_false] at h'
      have h2 : roadE (iv (hdV (tlV (f0 i)))) (lenV (hdV (tlV (tlV (f0 i))))) (fun j => views tp2 (atV (hdV (tlV (tlV (f0 i)))) j)) (iv (hdV (tlV (tlV (tlV (f0 i)))))) = 0 := h'
      unfold roadE at h2
      generalize (fun j => views tp2 (atV (hdV (tlV (tlV (f0 i)))) j)) = f at h2 ⊢
      generalize lenV (hdV (tlV (tlV (f0 i)))) = n at h2 ⊢
      generalize iv (hdV (tlV (tlV (tlV (f0 i))))) = w at h2 ⊢
      generalize iv (hdV (tlV (f0 i))) = k at h2
      cases h3 : F71_0 k 0 3 with
      | false => rw [h3] at h2; cases h2
      | true =>
        rw [h3, Bool.not_true, cond_false] at h2
        by_cases h4 : (n : Int) < 2
        · rw [decide_eq_true h4] at h2; cases h2
        · rw [decide_eq_false h4, cond_false] at h2
          by_cases h5 : 8 < (n : Int)
          · rw [decide_eq_true h5] at h2; cases h2
          · rw [decide_eq_false h5, cond_false] at h2
            cases h6 : exB n (fun i => !ptOk (iv (hdV (f i))) (iv (hdV (tlV (f i))))) with
            | true => rw [h6] at h2; cases h2
            | false =>
              rw [h6, cond_false] at h2
              cases h7 : F71_0 w 100 30000 with
              | false => rw [h7] at h2; cases h2
              | true =>
                rw [h7, Bool.not_true, cond_false] at h2
                cases h8 : adjP n f with
                | true => rw [h8] at h2; cases h2
                | false =>
                  have hw := from_in h7
                  refine ⟨by omega, by omega, fun j hj => ?_, fun j hj => ?_, hw.1, hw.2⟩
                  · apply pt_in
                    cases hp : ptOk (iv (hdV (f j))) (iv (hdV (tlV (f j)))) with
                    | true => rfl
                    | false => rw [exB_true j hj (by rw [hp]; rfl)] at h6; cases h6
                  · cases hp : eqP f (j + 1) j with
                    | false => rfl
                    | true =>
                      unfold adjP at h8
                      rw [exB_true (j + 1) hj (by rw [Nat.add_sub_cancel, hp]; simp)] at h8; cases h8
section
variable {n : Nat} {f : Nat -> List V} {w : Int}
theorem w1p {j n : Nat} (h : j < n) (hn : n <= 8) : (i64.wrap ((j : Int) + 1)).toNat = j + 1 := by
  rw [wrapI (by omega) (by omega)]; omega
theorem dpt {x : Int} (h : -100000 <= x /\ x <= 100000) : i64.wrap (2 * x) = 2 * x /\ sm (2 * x) := dbl (by unfold pl; omega)
theorem meets_eq (hr : RoadIn n f w) {X0 Y0 X1 Y1 : Int} (g1 : pl X0) (g2 : pl Y0) (g3 : pl X1) (g4 : pl Y1) (hX : X0 <= X1) (hY : Y0 <= Y1) : F61 n f w X0 Y0 X1 Y1 = F76 n f w X0 Y0 X1 Y1 := by
  unfold F61 F76
  refine maxTo_congr fun i hi => ?_
  have hj : i + 1 < n := by omega
  obtain ⟨a1, a2⟩ := hr.pts i (by omega)
  obtain ⟨b1, b2⟩ := hr.pts (i + 1) hj
  have := hr.w1
  have := hr.w2
  have hw := w1p (j := i) (n := n) (by omega) hr.eight
  unfold p61 q76
  rw [hw]
  have k := piece_eq (ax := i64.wrap (2 * iv (hdV (f i)))) (ay := i64.wrap (2 * iv (hdV (tlV (f i))))) (bx := i64.wrap (2 * iv (hdV (f (i + 1))))) (b2 := i64.wrap (2 * iv (hdV (tlV (f (i + 1)))))) (w := w)
    (by rw [(dpt a1).1]; exact (dpt a1).2) (by rw [(dpt a2).1]; exact (dpt a2).2) (by rw [(dpt b1).1]; exact (dpt b1).2) (by rw [(dpt b2).1]; exact (dpt b2).2) g1 g2 g3 g4 hX hY (by omega) (by omega)
  rw [k, tch_eq]
  unfold F124_0 F150_0 F150_1 F150_2 F150_3 F125_0 F125_1 crn F125_0 F125_1
  rw [hw]
  rfl
end
section
variable {n0 : Nat} {f0 : Nat -> List V} {n2 : Nat} {f2 : Nat -> List V} {n4 : Nat} {f4 : Nat -> List V} {n6 : Nat} {f6 : Nat -> List V}
theorem ix_road {x8 : Int} (h : ix1 (F24_2 n0 (elV tyR f0) n2 (elV tyT f2) n4 (elV tyF f4) n6 (elV tyC f6)) x8 n0 = 0) : RoadIn (lenV (hdV (tlV (tlV (f0 x8.toNat))))) (fun j => views tp2 (atV (hdV (tlV (tlV (f0 x8.toNat)))) j)) (iv (hdV (tlV (tlV (tlV (f0 x8.toNat)))))) := by
  obtain ⟨h1, h2, h3⟩ := ix1_zero h
  have hv := (valid h1).rd x8.toNat (by omega)
  exact road_in (f0 := f0) (n0 := n0) (by have : cR n0 (elV tyR f0) x8.toNat = cR n0 f0 x8.toNat := by unfold cR; rw [elV2]
                                          rw [← this]; exact hv)
end
end
end Go.Dx
namespace Go.Dx
open Go.IntKind (i64 u64 u8)
open Go.Sx
def mnTo (g : Nat -> Int) : Nat -> Int
  | 0 => g 0
  | k + 1 => min (mnTo g k) (g k)
def mxTo (g : Nat -> Int) : Nat -> Int
  | 0 => g 0
  | k + 1 => max (mxTo g k) (g k)
theorem mnTo_le {g : Nat -> Int} : ∀ {k i : Nat}, i < k -> mnTo g k <= g i
  | k + 1, i, h => by
    simp only [mnTo]
    by_cases e : i = k
    · subst e; omega
    · have := mnTo_le (g := g) (k := k) (i := i) (by omega); omega
theorem mxTo_ge {g : Nat -> Int} : ∀ {k i : Nat}, i < k -> g i <= mxTo g k
  | k + 1, i, h => by
    simp only [mxTo]
    by_cases e : i = k
    · subst e; omega
    · have := mxTo_ge (g := g) (k := k) (i := i) (by omega); omega
theorem mnTo_in {g : Nat -> Int} {B : Int} {n : Nat} (hg : ∀ i, i < n -> -B <= g i /\ g i <= B) (h0 : 0 < n) : ∀ {k : Nat}, k <= n -> -B <= mnTo g k /\ mnTo g k <= B
  | 0, _ => hg 0 h0
  | k + 1, h => by
    simp only [mnTo]
    have := mnTo_in hg h0 (k := k) (by omega)
    have := hg k (by omega); omega
theorem mxTo_in {g : Nat -> Int} {B : Int} {n : Nat} (hg : ∀ i, i < n -> -B <= g i /\ g i <= B) (h0 : 0 < n) : ∀ {k : Nat}, k <= n -> -B <= mxTo g k /\ mxTo g k <= B
  | 0, _ => hg 0 h0
  | k + 1, h => by
    simp only [mxTo]
    have := mxTo_in hg h0 (k := k) (by omega)
    have := hg k (by omega); omega
def rowF (q : Int -> Int -> Bool) (j : Int) : Nat -> Int -> List (Int × Int)
  | 0, _ => []
  | c + 1, i => bif q i j then (i, j) :: rowF q j c (i + 1) else rowF q j c (i + 1)
def gridF (q : Int -> Int -> Bool) (i0 : Int) (W : Nat) : Nat -> Int -> List (Int × Int)
  | 0, _ => []
  | h + 1, j => rowF q j W i0 ++ gridF q i0 W h (j + 1)
theorem rowF_mem {q : Int -> Int -> Bool} {j : Int} {p : Int × Int} : ∀ {c : Nat} {i : Int}, p ∈ rowF q j c i ↔ p.2 = j /\ i <= p.1 /\ p.1 < i + c /\ q p.1 p.2 = true
  | 0, i => by simp only [rowF, List.not_mem_nil, false_iff]; omega
  | c + 1, i => by
    simp only [rowF]
    cases hq : q i j with
    | true =>
      simp only [cond_true, List.mem_cons, rowF_mem (c := c)]
      constructor
      · rintro (rfl | ⟨h1, h2, h3, h4⟩)
        · exact ⟨rfl, by simp, by simp; omega, hq⟩
        · exact ⟨h1, by omega, by omega, h4⟩
      · rintro ⟨h1, h2, h3, h4⟩
        by_cases e : p.1 = i
        · left; cases p; simp_all
        · right; exact ⟨h1, by omega, by omega, h4⟩
    | false =>
      simp only [cond_false, rowF_mem (c := c)]
      constructor
      · rintro ⟨h1, h2, h3, h4⟩; exact ⟨h1, by omega, by omega, h4⟩
      · rintro ⟨h1, h2, h3, h4⟩
        by_cases e : p.1 = i
        · rw [h1, e, hq] at h4; cases h4
        · exact ⟨h1, by omega, by omega, h4⟩
theorem gridF_mem {q : Int -> Int -> Bool} {i0 : Int} {W : Nat} {p : Int × Int} : ∀ {h : Nat} {j : Int}, p ∈ gridF q i0 W h j ↔ (j <= p.2 /\ p.2 < j + h) /\ i0 <= p.1 /\ p.1 < i0 + W /\ q p.1 p.2 = true
  | 0, j => by simp only [gridF, List.not_mem_nil, false_iff]; omega
  | h + 1, j => by
    simp only [gridF, List.mem_append, rowF_mem, gridF_mem (h := h)]
    constructor
    · rintro (⟨h1, h2, h3, h4⟩ | ⟨⟨h1, h2⟩, h3, h4, h5⟩)
      · exact ⟨⟨by omega, by omega⟩, h2, h3, h4⟩
      · exact ⟨⟨by omega, by omega⟩, h3, h4, h5⟩
    · rintro ⟨⟨h1, h2⟩, h3, h4, h5⟩
      by_cases e : p.2 = j
      · exact .inl ⟨e, h3, h4, h5⟩
      · exact .inr ⟨⟨by omega, by omega⟩, h3, h4, h5⟩
theorem rowF_len {q : Int -> Int -> Bool} {j : Int} : ∀ (c : Nat) (i : Int), (rowF q j c i).length <= c
  | 0, _ => Nat.le_refl _
  | c + 1, i => by
    simp only [rowF]
    have := rowF_len (q := q) (j := j) c (i + 1)
    cases q i j <;> simp <;> omega
theorem gridF_len {q : Int -> Int -> Bool} {i0 : Int} {W : Nat} : ∀ (h : Nat) (j : Int), (gridF q i0 W h j).length <= h * W
  | 0, _ => by simp [gridF]
  | h + 1, j => by
    simp only [gridF, List.length_append, Nat.succ_mul]
    have := rowF_len (q := q) (j := j) W i0
    have := gridF_len (q := q) (i0 := i0) (W := W) h (j + 1)
    omega
theorem rowF_congr {q q' : Int -> Int -> Bool} {j : Int} : ∀ {c : Nat} {i : Int}, (∀ k, i <= k -> k < i + c -> q k j = q' k j) -> rowF q j c i = rowF q' j c i
  | 0, _, _ => rfl
  | c + 1, i, h => by simp only [rowF]; rw [h i (by omega) (by omega), rowF_congr fun k h1 h2 => h k (by omega) (by omega)]
theorem gridF_congr {q q' : Int -> Int -> Bool} {i0 : Int} {W : Nat} : ∀ {h : Nat} {j : Int}, (∀ i k, i0 <= i -> i < i0 + W -> j <= k -> k < j + h -> q i k = q' i k) -> gridF q i0 W h j = gridF q' i0 W h j
  | 0, _, _ => rfl
  | h + 1, j, hq => by simp only [gridF]; rw [rowF_congr fun k h1 h2 => hq k j h1 h2 (by omega) (by omega), gridF_congr fun i k h1 h2 h3 h4 => hq i k h1 h2 (by omega) (by omega)]
theorem grid_ind {q : Int -> Int -> Bool} {i0 i1 j0 j1 : Int} {W : Nat} {Tot : List (Int × Int)} {P1 : Int -> List (Int × Int) -> Prop} {P2 : Int -> Int -> List (Int × Int) -> Prop} (hW : i0 + W = i1 + 1)
    (row : ∀ j acc, j0 <= j -> j <= j1 -> P2 i0 j acc -> P1 j acc) (last : P1 (j1 + 1) Tot)
    (yes : ∀ i j acc, i0 <= i -> i <= i1 -> j0 <= j -> j <= j1 -> q i j = true -> acc.length + 1 <= Tot.length -> P2 (i + 1) j (acc ++ [(i, j)]) -> P2 i j acc)
    (no : ∀ i j acc, i0 <= i -> i <= i1 -> j0 <= j -> j <= j1 -> q i j = false -> P2 (i + 1) j acc -> P2 i j acc)
    (endR : ∀ j acc, j0 <= j -> j <= j1 -> P1 (j + 1) acc -> P2 (i1 + 1) j acc) :
    ∀ (h : Nat) (j : Int) (acc : List (Int × Int)), j0 <= j -> j + h = j1 + 1 -> acc ++ gridF q i0 W h j = Tot -> P1 j acc
  | 0, j, acc, _, h2, h3 => by
    simp only [gridF, List.append_nil] at h3; subst h3
    rw [show j = j1 + 1 by omega]; exact last
  | h + 1, j, acc, h1, h2, h3 => by
    refine row j acc h1 (by omega) ?_
    have key : ∀ (c : Nat) (i : Int) (acc : List (Int × Int)), i0 <= i -> i + c = i1 + 1 -> acc ++ (rowF q j c i ++ gridF q i0 W h (j + 1)) = Tot -> P2 i j acc := by
      intro c
      induction c with
      | zero =>
        intro i acc _ g2 g3
        simp only [rowF, List.nil_append] at g3
        rw [show i = i1 + 1 by omega]
        exact endR j acc h1 (by omega) (grid_ind hW row last yes no endR h (j + 1) acc (by omega) (by omega) g3)
      | succ c ih =>
        intro i acc g1 g2 g3
        simp only [rowF] at g3
        cases hq : q i j with
        | true =>
          rw [hq, cond_true] at g3
          refine yes i j acc g1 (by omega) h1 (by omega) hq (by rw [← g3]; simp) (ih (i + 1) _ (by omega) (by omega) ?_)
          rw [← g3]; simp
        | false =>
          rw [hq, cond_false] at g3
          exact no i j acc g1 (by omega) h1 (by omega) hq (ih (i + 1) _ (by omega) (by omega) g3)
    exact key W i0 acc (Int.le_refl _) hW h3
abbrev ty4 : List Ty := tp4
def v4 (a b c d : Int) : List V := [V.int .i64 a, V.int .i64 b, V.int .i64 c, V.int .i64 d]
def LR (g : Int -> Int -> List V) (n : Nat) (f : Nat -> List V) (acc : List (Int × Int)) : Prop := n = acc.length /\ ∀ k p, acc[k]? = some p -> views ty4 (f k) = g p.1 p.2
theorem LR.nil (g : Int -> Int -> List V) (f : Nat -> List V) : LR g 0 f [] := ⟨rfl, fun k p h => by simp at h⟩
theorem LR.view {g : Int -> Int -> List V} {n : Nat} {f : Nat -> List V} {acc : List (Int × Int)} (h : LR g n f acc) : LR g n (elV ty4 f) acc := ⟨h.1, fun k p hk => by show views ty4 (views ty4 (f k)) = _; rw [views_idem]; exact h.2 k p hk⟩
theorem LR.snoc {g : Int -> Int -> List V} {n : Nat} {f : Nat -> List V} {acc : List (Int × Int)} {i j : Int} {l : List V} (h : LR g n f acc) (hl : l = g i j) (hg : views ty4 (g i j) = g i j) : LR g (n + 1) (joinF n (elV ty4 f) fun _ => l) (acc ++ [(i, j)]) := by
  refine ⟨by rw [h.1]; simp, fun k p hk => ?_⟩
  unfold joinF
  rw [h.1]
  by_cases hlt : k < acc.length
  · rw [show Nat.blt k acc.length = true from Nat.ble_eq_true_of_le hlt, cond_true]
    rw [List.getElem?_append_left hlt] at hk
    exact h.view.2 k p hk
  · have : Nat.blt k acc.length = false := by
      cases hb : Nat.blt k acc.length with
      | false => rfl
      | true => have := Nat.le_of_ble_eq_true hb; omega
    rw [this, cond_false, hl, hg]
    rw [List.getElem?_append_right (by omega)] at hk
    have e0 : k - acc.length = 0 := by
      apply Classical.byContradiction; intro hne
      rw [List.getElem?_eq_none (by simp; omega)] at hk; cases hk
    rw [e0] at hk; cases hk; rfl
def boxF (g : Int -> Int -> List V) (L : List (Int × Int)) : Nat -> List V := fun k => match L[k]? with
  | some p => g p.1 p.2
  | none => []
def patE (e : Int) (bad : Bool) (m : Int) (L : List (Int × Int)) : Int := bif e != 0 then e else bif bad then 7 else bif decide (4000 < m) then 3 else bif decide (400 < L.length) then 3 else 0
def patL (e : Int) (L : List (Int × Int)) : List (Int × Int) := bif e == 0 then L else []
def patR (g : Int -> Int -> List V) (e : Int) (L : List (Int × Int)) : V := .tup [.sl (patL e L).length (elV ty4 (boxF g (patL e L))), .int .i64 e]
theorem patE_len {e : Int} {bad : Bool} {m : Int} {L : List (Int × Int)} : (patL (patE e bad m L) L).length <= 400 := by
  unfold patL patE
  cases he : e != 0 with
  | true =>
    have : (e == 0) = false := by simpa using he
    rw [cond_true, this]; simp
  | false =>
    rw [cond_false]
    cases bad with
    | true => simp
    | false =>
      simp only [cond_false]
      by_cases h1 : 4000 < m
      · simp [h1]
      · by_cases h2 : 400 < L.length
        · simp [h1, h2]
        · simp [h1, h2]; omega
theorem patR_ok {g : Int -> Int -> List V} {e : Int} {bad : Bool} {m : Int} {L : List (Int × Int)} : okL 4 (patR g (patE e bad m L) L) := okL_tup rfl rfl rfl (by have := patE_len (e := e) (bad := bad) (m := m) (L := L); omega)
theorem patR_err {g : Int -> Int -> List V} {e : Int} {L : List (Int × Int)} {f : Nat -> List V} (h : e ≠ 0) : toA (.tup [.sl 0 f, .int .i64 e]) = toA (patR g e L) := by
  have : (e == 0) = false := by simpa using h
  unfold patR patL
  rw [this]
  exact toA_tup (toA_list rfl fun i hi => by omega) rfl
theorem patR_ok0 {g : Int -> Int -> List V} {L : List (Int × Int)} {n : Nat} {f : Nat -> List V} (h : LR g n f L) (hg : ∀ i j, views ty4 (g i j) = g i j) : toA (.tup [.sl n (elV ty4 f), .int .i64 0]) = toA (patR g 0 L) := by
  unfold patR patL
  refine toA_tup (toA_list h.1 fun k hk => ?_) rfl
  rw [h.1] at hk
  have e : L[k]? = some L[k] := List.getElem?_eq_getElem hk
  show toAs (views ty4 (f k)) = toAs (views ty4 (boxF g L k))
  rw [h.2 k _ e]
  unfold boxF
  rw [e]
  simp only [hg]
end Go.Dx
namespace Go.Dx
open Go.IntKind (i64 u64 u8)
open Go.Sx Go.Proofs
set_option maxRecDepth 100000
set_option linter.unusedVariables false
set_option linter.unusedSimpArgs false
noncomputable section
def ctB26 : CTab := [(76, .con C76), (126, .con C126), (151, .con C151), (22, .con C22), (15, .con C15), (55, .con C55), (61, .con C61), (108, .con C108), (46, .con C46), (111, .con C111), (56, .con C56), (47, .con C47), (145, .con C145), (140, .con C140), (49, .con C49), (123, .con C123), (124, .con C124), (50, .con C50), (44, .con C44), (91, .con C91), (24, .con C24), (23, .con C23), (70, .con C70), (62, .con C62), (68, .con C68), (63, .con C63), (69, .con C69), (117, .inl s117 u0), (116, .inl s116 u0), (115, .con C115), (114, .con C114), (73, .con C73), (147, .con C147), (64, .con C64), (66, .con C66), (113, .con C113), (65, .con C65), (67, .con C67), (53, .con C53), (58, .con C58), (122, .con C122), (72, .con C72), (45, .con C45), (90, .con C90), (119, .con C119), (121, .con C121), (99, .con C99), (129, .con C129), (148, .con C148), (149, .con C149), (112, .con C112), (118, .con C118), (120, .con C120), (51, .con C51), (133, .con C133), (103, .con C103), (106, .con C106), (100, .con C100), (150, .con C150), (134, .con C134), (135, .con C135), (137, .con C137), (138, .con C138), (78, .con C78), (54, .con C54), (59, .con C59), (48, .con C48), (102, .con C102), (171, .con C171), (81, .con C81), (88, .con C88), (84, .con C84), (85, .con C85), (127, .con C127), (101, .con C101), (86, .con C86), (71, .con C71), (93, .con C93), (92, .con C92), (79, .con C79), (136, .con C136), (144, .con C144), (125, .con C125), (162, .con C162), (146, .con C146), (83, .inl s83 u0), (87, .inl s87 u0)]
theorem tabB26 : TabOk Tryz.prog eqs its ctB26 := .con ok76 (.con ok126 (.con ok151 (.con ok22 (.con ok15 (.con ok55 (.con ok61 (.con ok108 (.con ok46 (.con ok111 (.con ok56 (.con ok47 (.con ok145 (.con ok140 (.con ok49 (.con ok123 (.con ok124 (.con ok50 (.con ok44 (.con ok91 (.con ok24 (.con ok23 (.con ok70 (.con ok62 (.con ok68 (.con ok63 (.con ok69 (.inl Tryz.func117 (by kernel_rfl) (by kernel_rfl) (by kernel_rfl) (.inl Tryz.func116 (by kernel_rfl) (by kernel_rfl) (by kernel_rfl) (.con ok115 (.con ok114 (.con ok73 (.con ok147 (.con ok64 (.con ok66 (.con ok113 (.con ok65 (.con ok67 (.con ok53 (.con ok58 (.con ok122 (.con ok72 (.con ok45 (.con ok90 (.con ok119 (.con ok121 (.con ok99 (.con ok129 (.con ok148 (.con ok149 (.con ok112 (.con ok118 (.con ok120 (.con ok51 (.con ok133 (.con ok103 (.con ok106 (.con ok100 (.con ok150 (.con ok134 (.con ok135 (.con ok137 (.con ok138 (.con ok78 (.con ok54 (.con ok59 (.con ok48 (.con ok102 (.con ok171 (.con ok81 (.con ok88 (.con ok84 (.con ok85 (.con ok127 (.con ok101 (.con ok86 (.con ok71 (.con ok93 (.con ok92 (.con ok79 (.con ok136 (.con ok144 (.con ok125 (.con ok162 (.con ok146 (.inl Tryz.func83 (by kernel_rfl) (by kernel_rfl) (by kernel_rfl) (.inl Tryz.func87 (by kernel_rfl) (by kernel_rfl) (by kernel_rfl) (.nil)))))))))))))))))))))))))))))))))))))))))))))))))))))))))))))))))))))))))))))))))))))))
def u35 : Unr := fun k => bif Nat.beq k 3 || Nat.beq k 5 then 3 else 0
attribute [local irreducible] F44 F50_0 F91_0
inductive S35 where
  | L0 (i_100 i_101 i_102 i_103 i_104 : Int)
  | L1 (i_200 : Int) (n_201 : Nat) (i_202 : Int) (f_203 : Nat -> List V) (i_204 i_205 i_206 i_207 : Int)
  | L2 (i_300 i_301 : Int) (n_302 : Nat) (i_303 : Int) (f_304 : Nat -> List V) (i_305 i_306 i_307 i_308 : Int)
def inv35 (n0 : Nat) (f0 : FnV) (n2 : Nat) (f2 : FnV) (n4 : Nat) (f4 : FnV) (n6 : Nat) (f6 : FnV) (x8 x9 : Int) : S35 -> Env × List O × Option Ex
  | .L0 i_100 i_101 i_102 i_103 i_104 => ([(50, vi i_100), (49, vi (↑(lenV (hdV (tlV (tlV (f0 x8.toNat))))) : Int)), (48, V.sl (lenV (hdV (tlV (tlV (f0 x8.toNat))))) fun i => views tp2 (atV (hdV (tlV (tlV (f0 x8.toNat)))) i)), (11, V.pl 0 0), (10, V.pl 1 0), (9, V.pl 2 0), (2, vi x9)], [O.cells [vi i_101, vi i_102] 72, O.cells [vi i_103, vi i_104] 72, O.cells [V.str (sv (hdV (f0 x8.toNat))), vi (iv (hdV (tlV (f0 x8.toNat)))), V.sl (lenV (hdV (tlV (tlV (f0 x8.toNat))))) fun i => views tp2 (atV (hdV (tlV (tlV (f0 x8.toNat)))) i), vi (iv (hdV (tlV (tlV (tlV (f0 x8.toNat))))))] 54], none)
  | .L1 i_200 n_201 i_202 f_203 i_204 i_205 i_206 i_207 => ([(17, vi i_200), (16, V.gs 0 n_201), (77, vi (i64.wrap (i64.wrap (0 + 1) + 1))), (50, vi i_202), (49, vi (↑(lenV (hdV (tlV (tlV (f0 x8.toNat))))) : Int)), (48, V.sl (lenV (hdV (tlV (tlV (f0 x8.toNat))))) fun i => views tp2 (atV (hdV (tlV (tlV (f0 x8.toNat)))) i)), (11, V.pl 1 0), (10, V.pl 2 0), (9, V.pl 3 0), (2, vi x9)], [O.gl 4 n_201 (elV tp4 f_203) 29, O.cells [vi i_204, vi i_205] 72, O.cells [vi i_206, vi i_207] 72, O.cells [V.str (sv (hdV (f0 x8.toNat))), vi (iv (hdV (tlV (f0 x8.toNat)))), V.sl (lenV (hdV (tlV (tlV (f0 x8.toNat))))) fun i => views tp2 (atV (hdV (tlV (tlV (f0 x8.toNat)))) i), vi (iv (hdV (tlV (tlV (tlV (f0 x8.toNat))))))] 54], none)
  | .L2 i_300 i_301 n_302 i_303 f_304 i_305 i_306 i_307 i_308 => ([(18, vi i_300), (17, vi i_301), (16, V.gs 0 n_302), (77, vi (i64.wrap (i64.wrap (0 + 1) + 1))), (50, vi i_303), (49, vi (↑(lenV (hdV (tlV (tlV (f0 x8.toNat))))) : Int)), (48, V.sl (lenV (hdV (tlV (tlV (f0 x8.toNat))))) fun i => views tp2 (atV (hdV (tlV (tlV (f0 x8.toNat)))) i)), (11, V.pl 1 0), (10, V.pl 2 0), (9, V.pl 3 0), (2, vi x9)], [O.gl 4 n_302 (elV tp4 f_304) 29, O.cells [vi i_305, vi i_306] 72, O.cells [vi i_307, vi i_308] 72, O.cells [V.str (sv (hdV (f0 x8.toNat))), vi (iv (hdV (tlV (f0 x8.toNat)))), V.sl (lenV (hdV (tlV (tlV (f0 x8.toNat))))) fun i => views tp2 (atV (hdV (tlV (tlV (f0 x8.toNat)))) i), vi (iv (hdV (tlV (tlV (tlV (f0 x8.toNat))))))] 54], none)
def id35 : S35 -> JJ
  | .L0 i_100 i_101 i_102 i_103 i_104 => (0, [])
  | .L1 i_200 n_201 i_202 f_203 i_204 i_205 i_206 i_207 => (1, [])
  | .L2 i_300 i_301 n_302 i_303 f_304 i_305 i_306 i_307 i_308 => (2, [])
def rl35 (n0 : Nat) (f0 : FnV) (n2 : Nat) (f2 : FnV) (n4 : Nat) (f4 : FnV) (n6 : Nat) (f6 : FnV) (x8 x9 : Int) : T (Leaf JJ) := runLL JJ 4 29 ctB26 u35 s35 [scV n0 f0 n2 f2 n4 f4 n6 f6, vi x8, vi x9]
def lp35_0 (n0 : Nat) (f0 : FnV) (n2 : Nat) (f2 : FnV) (n4 : Nat) (f4 : FnV) (n6 : Nat) (f6 : FnV) (x8 x9 : Int) (cx : List Cx) : Lp JJ := lpT (atT (rl35 n0 f0 n2 f2 n4 f4 n6 f6 x8 x9) [false, false])
def lp35_1 (n0 : Nat) (f0 : FnV) (n2 : Nat) (f2 : FnV) (n4 : Nat) (f4 : FnV) (n6 : Nat) (f6 : FnV) (x8 x9 : Int) (cx : List Cx) : Lp JJ := lpT (atT (rdT ctB26 u35 (0, []) (lp35_0 n0 f0 n2 f2 n4 f4 n6 f6 x8 x9 []) (inv35 n0 f0 n2 f2 n4 f4 n6 f6 x8 x9 (.L0 (0 : Int) (0 : Int) (0 : Int) (0 : Int) (0 : Int))).1 (inv35 n0 f0 n2 f2 n4 f4 n6 f6 x8 x9 (.L0 (0 : Int) (0 : Int) (0 : Int) (0 : Int) (0 : Int))).2.1 (inv35 n0 f0 n2 f2 n4 f4 n6 f6 x8 x9 (.L0 (0 : Int) (0 : Int) (0 : Int) (0 : Int) (0 : Int))).2.2) [false, true, true, false, false])
def lp35_2 (n0 : Nat) (f0 : FnV) (n2 : Nat) (f2 : FnV) (n4 : Nat) (f4 : FnV) (n6 : Nat) (f6 : FnV) (x8 x9 : Int) (cx : List Cx) : Lp JJ := lpT (atT (rdT ctB26 u35 (1, []) (lp35_1 n0 f0 n2 f2 n4 f4 n6 f6 x8 x9 []) (inv35 n0 f0 n2 f2 n4 f4 n6 f6 x8 x9 (.L1 (0 : Int) 0 (0 : Int) (fun _ => []) (0 : Int) (0 : Int) (0 : Int) (0 : Int))).1 (inv35 n0 f0 n2 f2 n4 f4 n6 f6 x8 x9 (.L1 (0 : Int) 0 (0 : Int) (fun _ => []) (0 : Int) (0 : Int) (0 : Int) (0 : Int))).2.1 (inv35 n0 f0 n2 f2 n4 f4 n6 f6 x8 x9 (.L1 (0 : Int) 0 (0 : Int) (fun _ => []) (0 : Int) (0 : Int) (0 : Int) (0 : Int))).2.2) [true])
def lp35 (n0 : Nat) (f0 : FnV) (n2 : Nat) (f2 : FnV) (n4 : Nat) (f4 : FnV) (n6 : Nat) (f6 : FnV) (x8 x9 : Int) : JJ -> Lp JJ
  | (0, cx) => lp35_0 n0 f0 n2 f2 n4 f4 n6 f6 x8 x9 cx
  | (1, cx) => lp35_1 n0 f0 n2 f2 n4 f4 n6 f6 x8 x9 cx
  | (2, cx) => lp35_2 n0 f0 n2 f2 n4 f4 n6 f6 x8 x9 cx
  | (_, cx) => lp35_0 n0 f0 n2 f2 n4 f4 n6 f6 x8 x9 cx
def D35 (n0 : Nat) (f0 : FnV) (n2 : Nat) (f2 : FnV) (n4 : Nat) (f4 : FnV) (n6 : Nat) (f6 : FnV) (x8 x9 : Int) : LD JJ S35 := ⟨id35, lp35 n0 f0 n2 f2 n4 f4 n6 f6 x8 x9, inv35 n0 f0 n2 f2 n4 f4 n6 f6 x8 x9⟩
def st35 (n0 : Nat) (f0 : FnV) (n2 : Nat) (f2 : FnV) (n4 : Nat) (f4 : FnV) (n6 : Nat) (f6 : FnV) (x8 x9 : Int) : S35 -> RT S35
  | .L0 i_100 i_101 i_102 i_103 i_104 => .br (decide (i_100 < (↑(lenV (hdV (tlV (tlV (f0 x8.toNat))))) : Int))) (.ob (decide (0 <= i_100 /\ i_100 < (↑(lenV (hdV (tlV (tlV (f0 x8.toNat))))) : Int))) (.brt (.obt (.obt (.obt (.obt (.obt (.obt (.brt (.obt (.obt (.obt (.obt (.obt (.obt (.brf (.next [some (some 0), some (some 1), some (some 2)] (S35.L0 (i64.wrap (i_100 + 1)) (max i_101 (iv (hdV (atV (hdV (tlV (tlV (f0 x8.toNat)))) i_100.toNat)))) (max i_102 (iv (hdV (tlV (atV (hdV (tlV (tlV (f0 x8.toNat)))) i_100.toNat))))) (min i_103 (iv (hdV (atV (hdV (tlV (tlV (f0 x8.toNat)))) i_100.toNat)))) (min i_104 (iv (hdV (tlV (atV (hdV (tlV (tlV (f0 x8.toNat)))) i_100.toNat)))))) []))))))))))))))))) (.brt (.obt (.obp (x9 = (0 : Int) -> False) (.obt (.obt (.obp (x9 = (0 : Int) -> False) (.obt (.obt (.obt (.brt (.obt (.obp (x9 = (0 : Int) -> False) (.obt (.obt (.obp (x9 = (0 : Int) -> False) (.obt (.obt (.obt (.brf (.obt (.obt (.obt (.obt (.br (decide (4000 < i64.wrap (i64.wrap (i64.wrap (F81_0 (i64.wrap (i_101 + iv (hdV (tlV (tlV (tlV (f0 x8.toNat))))))) x9 - F81_0 (i64.wrap (i_103 - iv (hdV (tlV (tlV (tlV (f0 x8.toNat))))))) x9) + 1) * i64.wrap (i64.wrap (F81_0 (i64.wrap (i_102 + iv (hdV (tlV (tlV (tlV (f0 x8.toNat))))))) x9 - F81_0 (i64.wrap (i_104 - iv (hdV (tlV (tlV (tlV (f0 x8.toNat))))))) x9) + 1)))) (.obt (.ret (V.tup [V.sl 0 fun x => [], vi 3]))) (.obt (.enter [some none, some (some 0), some (some 1), some (some 2)] (S35.L1 (F81_0 (i64.wrap (i_104 - iv (hdV (tlV (tlV (tlV (f0 x8.toNat))))))) x9) (0) (i_100) (fun i => []) (F81_0 (i64.wrap (i_101 + iv (hdV (tlV (tlV (tlV (f0 x8.toNat))))))) x9) (F81_0 (i64.wrap (i_102 + iv (hdV (tlV (tlV (tlV (f0 x8.toNat))))))) x9) (F81_0 (i64.wrap (i_103 - iv (hdV (tlV (tlV (tlV (f0 x8.toNat))))))) x9) (F81_0 (i64.wrap (i_104 - iv (hdV (tlV (tlV (tlV (f0 x8.toNat))))))) x9)) []))))))))))))))))))))))))))
  | .L1 i_200 n_201 i_202 f_203 i_204 i_205 i_206 i_207 => .obt (.br (decide (i_200 <= i_205)) (.obt (.enter [some (some 0), some (some 1), some (some 2), some (some 3)] (S35.L2 (i_206) (i_200) (n_201) (i_202) (elV tp4 f_203) (i_204) (i_205) (i_206) (i_207)) [⟨0, tp4, n_201, elV tp4 f_203, vf_view rfl _ _⟩])) (.br (decide (400 < (↑n_201 : Int))) (.obt (.ret (V.tup [V.sl 0 fun x => [], vi 3]))) (.ob (decide (n_201 <= n_201)) (.ret (V.tup [V.sl n_201 (elV tp4 f_203), vi 0])))))
  | .L2 i_300 i_301 n_302 i_303 f_304 i_305 i_306 i_307 i_308 => .obt (.br (decide (i_300 <= i_305)) (.obc (.obt (.br (F61 (lenV (hdV (tlV (tlV (f0 x8.toNat))))) (fun i => views tp2 (atV (hdV (tlV (tlV (f0 x8.toNat)))) i)) (iv (hdV (tlV (tlV (tlV (f0 x8.toNat)))))) (i64.wrap (i_300 * x9)) (i64.wrap (i_301 * x9)) (i64.wrap (i64.wrap (i_300 + 1) * x9)) (i64.wrap (i64.wrap (i_301 + 1) * x9)) == 0) (.next [some (some 0), some (some 1), some (some 2), some (some 3)] (S35.L2 (i64.wrap (i_300 + 1)) (i_301) (n_302) (i_303) (elV tp4 f_304) (i_305) (i_306) (i_307) (i_308)) [⟨0, tp4, n_302, elV tp4 f_304, vf_view rfl _ _⟩]) (.obt (.ob (decide (n_302 <= n_302 /\ (n_302 + 1) * 32 <= 140737488355328) && !Nat.beq 32 0) (.br (decide (400 < (↑(n_302 + 1) : Int))) (.brx (decide (400 < (↑(n_302 + 1) : Int))) (.obt (.ret (V.tup [V.sl 0 fun x => [], vi 3])))) (.next [some (some 6), some (some 1), some (some 2), some (some 3)] (S35.L2 (i64.wrap (i_300 + 1)) (i_301) (n_302 + 1) (i_303) (joinF n_302 (elV tp4 f_304) fun x => [vi (i64.wrap (i_300 * x9)), vi (i64.wrap (i_301 * x9)), vi (i64.wrap (i64.wrap (i_300 + 1) * x9)), vi (i64.wrap (i64.wrap (i_301 + 1) * x9))]) (i_305) (i_306) (i_307) (i_308)) [⟨0, tp4, n_302 + 1, joinF n_302 (elV tp4 f_304) fun x => [vi (i64.wrap (i_300 * x9)), vi (i64.wrap (i_301 * x9)), vi (i64.wrap (i64.wrap (i_300 + 1) * x9)), vi (i64.wrap (i64.wrap (i_301 + 1) * x9))], vf_join (vf_view rfl _ _) (vf_const rfl _ rfl)⟩]))))))) (.next [some (some 0), some (some 1), some (some 2), some (some 3)] (S35.L1 (i64.wrap (i_301 + 1)) (n_302) (i_303) (elV tp4 f_304) (i_305) (i_306) (i_307) (i_308)) [⟨0, tp4, n_302, elV tp4 f_304, vf_view rfl _ _⟩]))
def m35 (n0 : Nat) (f0 : FnV) (n2 : Nat) (f2 : FnV) (n4 : Nat) (f4 : FnV) (n6 : Nat) (f6 : FnV) (x8 x9 : Int) : RT S35 := .asm (true = true -> n0 <= 9223372036854775807) (.obp (((∀ (i : Nat), i < n0 -> (sv (hdV (f0 i))).size <= (9223372036854775807 : Nat)) /\ ∀ (i : Nat), i < n6 -> (sv (hdV (f6 i))).size <= (9223372036854775807 : Nat)) /\ (0 : Nat) = (0 : Nat) /\ (2 : Nat) <= (100 : Nat)) (.obt (.br (F44 n0 (elV tyR f0) n2 (elV tyT f2) n4 (elV tyF f4) n6 (elV tyC f6) 2 (elV tp1 (secF [vi x8, vi (↑n0 : Int)] 0 ((1 + 1 - 0) / 2))) != 0) (.obt (.ret (V.tup [V.sl 0 fun x => [], vi (F44 n0 (elV tyR f0) n2 (elV tyT f2) n4 (elV tyF f4) n6 (elV tyC f6) 2 (elV tp1 (secF [vi x8, vi (↑n0 : Int)] 0 ((1 + 1 - 0) / 2))))]))) (.obc (.obt (.br (F86_0 x9 100 100000) (.obt (.ret (V.tup [V.sl 0 fun x => [], vi 7]))) (.ob (decide (0 <= x8 /\ x8 < (↑n0 : Int))) (.ob (decide ((0 : Int) <= 0 /\ 0 < (↑(lenV (hdV (tlV (tlV (f0 x8.toNat))))) : Int))) (.ob (decide ((0 : Int) <= 0 /\ 0 < (↑(lenV (hdV (tlV (tlV (f0 x8.toNat))))) : Int))) (.asm (true = true -> lenV (hdV (tlV (tlV (f0 x8.toNat)))) <= 9223372036854775807) (.enter [some (some 4), some (some 3), some (some 2)] (S35.L0 (0) (iv (hdV (atV (hdV (tlV (tlV (f0 x8.toNat)))) 0))) (iv (hdV (tlV (atV (hdV (tlV (tlV (f0 x8.toNat)))) 0)))) (iv (hdV (atV (hdV (tlV (tlV (f0 x8.toNat)))) 0))) (iv (hdV (tlV (atV (hdV (tlV (tlV (f0 x8.toNat)))) 0))))) [])))))))))))
theorem run35 (n0 : Nat) (f0 : FnV) (n2 : Nat) (f2 : FnV) (n4 : Nat) (f4 : FnV) (n6 : Nat) (f6 : FnV) (x8 x9 : Int) : Fits ctB26 u35 (D35 n0 f0 n2 f2 n4 f4 n6 f6 x8 x9) (rl35 n0 f0 n2 f2 n4 f4 n6 f6 x8 x9) (m35 n0 f0 n2 f2 n4 f4 n6 f6 x8 x9) (st35 n0 f0 n2 f2 n4 f4 n6 f6 x8 x9) := ⟨⟨by kernel_rfl, by kernel_rfl⟩, fun s => match s with | .L0 i_100 i_101 i_102 i_103 i_104 => ⟨by kernel_rfl, by kernel_rfl⟩ | .L1 i_200 n_201 i_202 f_203 i_204 i_205 i_206 i_207 => ⟨by kernel_rfl, by kernel_rfl⟩ | .L2 i_300 i_301 n_302 i_303 f_304 i_305 i_306 i_307 i_308 => ⟨by kernel_rfl, by kernel_rfl⟩⟩
def npt (f0 : FnV) (i : Int) : Nat := lenV (hdV (tlV (tlV (f0 i.toNat))))
def gxp (f0 : FnV) (i : Int) (j : Nat) : Int := iv (hdV (atV (hdV (tlV (tlV (f0 i.toNat)))) j))
def gyp (f0 : FnV) (i : Int) (j : Nat) : Int := iv (hdV (tlV (atV (hdV (tlV (tlV (f0 i.toNat)))) j)))
def wid (f0 : FnV) (i : Int) : Int := iv (hdV (tlV (tlV (tlV (f0 i.toNat)))))
def ptf (f0 : FnV) (i : Int) : Nat -> List V := fun k => views tp2 (atV (hdV (tlV (tlV (f0 i.toNat)))) k)
def cI0 (f0 : FnV) (i s : Int) : Int := (mnTo (gxp f0 i) (npt f0 i) - wid f0 i) / s
def cI1 (f0 : FnV) (i s : Int) : Int := (mxTo (gxp f0 i) (npt f0 i) + wid f0 i) / s
def cJ0 (f0 : FnV) (i s : Int) : Int := (mnTo (gyp f0 i) (npt f0 i) - wid f0 i) / s
def cJ1 (f0 : FnV) (i s : Int) : Int := (mxTo (gyp f0 i) (npt f0 i) + wid f0 i) / s
def patM (f0 : FnV) (i s : Int) : Int := (cI1 f0 i s - cI0 f0 i s + 1) * (cJ1 f0 i s - cJ0 f0 i s + 1)
def patT (q : Int -> Int -> Bool) (f0 : FnV) (i s : Int) : List (Int × Int) := gridF q (cI0 f0 i s) (cI1 f0 i s - cI0 f0 i s + 1).toNat (cJ1 f0 i s - cJ0 f0 i s + 1).toNat (cJ0 f0 i s)
def sqP (s i j : Int) : List V := v4 (i64.wrap (i * s)) (i64.wrap (j * s)) (i64.wrap (i64.wrap (i + 1) * s)) (i64.wrap (i64.wrap (j + 1) * s))
def sqR (s i j : Int) : List V := v4 (i64.wrap (i * s)) (i64.wrap (j * s)) (i64.wrap (i64.wrap (i * s) + s)) (i64.wrap (i64.wrap (j * s) + s))
def qP (f0 : FnV) (x s i j : Int) : Bool := F61 (npt f0 x) (ptf f0 x) (wid f0 x) (i64.wrap (i * s)) (i64.wrap (j * s)) (i64.wrap (i64.wrap (i + 1) * s)) (i64.wrap (i64.wrap (j + 1) * s)) != 0
def qR (f0 : FnV) (x s i j : Int) : Bool := F76 (npt f0 x) (ptf f0 x) (wid f0 x) (i64.wrap (i * s)) (i64.wrap (j * s)) (i64.wrap (i64.wrap (i * s) + s)) (i64.wrap (i64.wrap (j * s) + s)) != 0
theorem patE_1 {e : Int} {bad : Bool} {m : Int} {L : List (Int × Int)} (h : (e != 0) = true) : patE e bad m L = e := by unfold patE; rw [h]; rfl
theorem patE_2 {e : Int} {bad : Bool} {m : Int} {L : List (Int × Int)} (h : (e != 0) = false) (hb : bad = true) : patE e bad m L = 7 := by unfold patE; rw [h, hb]; rfl
theorem patE_3 {e : Int} {bad : Bool} {m : Int} {L : List (Int × Int)} (h : (e != 0) = false) (hb : bad = false) (hm : 4000 < m) : patE e bad m L = 3 := by unfold patE; rw [h, hb, decide_eq_true hm]; rfl
theorem patE_4 {e : Int} {bad : Bool} {m : Int} {L : List (Int × Int)} (h : (e != 0) = false) (hb : bad = false) (hm : ¬ 4000 < m) (hl : 400 < L.length) : patE e bad m L = 3 := by unfold patE; rw [h, hb, decide_eq_false hm, decide_eq_true hl]; rfl
theorem patE_5 {e : Int} {bad : Bool} {m : Int} {L : List (Int × Int)} (h : (e != 0) = false) (hb : bad = false) (hm : ¬ 4000 < m) (hl : ¬ 400 < L.length) : patE e bad m L = 0 := by unfold patE; rw [h, hb, decide_eq_false hm, decide_eq_false hl]; rfl
theorem patM_v (f0 : FnV) (i s : Int) : patM (elV tyR f0) i s = patM f0 i s := rfl
theorem qP_v (f0 : FnV) (x s : Int) : qP (elV tyR f0) x s = qP f0 x s := rfl
theorem qR_v (f0 : FnV) (x s : Int) : qR (elV tyR f0) x s = qR f0 x s := rfl
theorem patT_v (f0 : FnV) (x s : Int) : patT (qP (elV tyR f0) x s) (elV tyR f0) x s = patT (qP f0 x s) f0 x s := rfl
theorem patT_w (f0 : FnV) (x s : Int) : patT (qR (elV tyR f0) x s) (elV tyR f0) x s = patT (qR f0 x s) f0 x s := rfl
structure GridIn (f0 : FnV) (i s : Int) : Prop where
  s1 : 100 <= s
  s2 : s <= 100000
  n2 : 2 <= npt f0 i
  n8 : npt f0 i <= 8
  mx : -100000 <= mxTo (gxp f0 i) (npt f0 i) /\ mxTo (gxp f0 i) (npt f0 i) <= 100000
  my : -100000 <= mxTo (gyp f0 i) (npt f0 i) /\ mxTo (gyp f0 i) (npt f0 i) <= 100000
  lx : -100000 <= mnTo (gxp f0 i) (npt f0 i) /\ mnTo (gxp f0 i) (npt f0 i) <= 100000
  ly : -100000 <= mnTo (gyp f0 i) (npt f0 i) /\ mnTo (gyp f0 i) (npt f0 i) <= 100000
  w1 : 100 <= wid f0 i
  w2 : wid f0 i <= 30000
  i0 : -130000 <= cI0 f0 i s /\ cI0 f0 i s <= 130000
  i1 : -130000 <= cI1 f0 i s /\ cI1 f0 i s <= 130000
  j0 : -130000 <= cJ0 f0 i s /\ cJ0 f0 i s <= 130000
  j1 : -130000 <= cJ1 f0 i s /\ cJ1 f0 i s <= 130000
  wi : cI0 f0 i s <= cI1 f0 i s
  wj : cJ0 f0 i s <= cJ1 f0 i s
theorem grid_in {f0 : Nat -> List V} {i s : Int} (hr : RoadIn (npt f0 i) (ptf f0 i) (wid f0 i)) (h1 : 100 <= s) (h2 : s <= 100000) : GridIn f0 i s := by
  have hx : ∀ j, j < npt f0 i -> -100000 <= gxp f0 i j /\ gxp f0 i j <= 100000 := fun j hj => (hr.pts j hj).1
  have hy : ∀ j, j < npt f0 i -> -100000 <= gyp f0 i j /\ gyp f0 i j <= 100000 := fun j hj => (hr.pts j hj).2
  have h0 : 0 < npt f0 i := by have := hr.two; omega
  have mx := mxTo_in hx h0 (Nat.le_refl _)
  have my := mxTo_in hy h0 (Nat.le_refl _)
  have lx := mnTo_in hx h0 (Nat.le_refl _)
  have ly := mnTo_in hy h0 (Nat.le_refl _)
  have w1 := hr.w1
  have w2 := hr.w2
  have bx : mnTo (gxp f0 i) (npt f0 i) <= mxTo (gxp f0 i) (npt f0 i) := Int.le_trans (mnTo_le h0) (mxTo_ge h0)
  have byy : mnTo (gyp f0 i) (npt f0 i) <= mxTo (gyp f0 i) (npt f0 i) := Int.le_trans (mnTo_le h0) (mxTo_ge h0)
  exact ⟨h1, h2, hr.two, hr.eight, mx, my, lx, ly, w1, w2, ediv_bd (by omega) (by omega) (by omega), ediv_bd (by omega) (by omega) (by omega), ediv_bd (by omega) (by omega) (by omega), ediv_bd (by omega) (by omega) (by omega),
    Int.ediv_le_ediv (by omega) (by omega), Int.ediv_le_ediv (by omega) (by omega)⟩
theorem patM_w {f0 : Nat -> List V} {i s : Int} (h : GridIn f0 i s) : i64.wrap (i64.wrap (i64.wrap (cI1 f0 i s - cI0 f0 i s) + 1) * i64.wrap (i64.wrap (cJ1 f0 i s - cJ0 f0 i s) + 1)) = patM f0 i s := by
  have := h.i0; have := h.i1; have := h.j0; have := h.j1; have := h.wi; have := h.wj
  rw [wrapI (x := cI1 f0 i s - cI0 f0 i s) (by omega) (by omega), wrapI (x := cJ1 f0 i s - cJ0 f0 i s) (by omega) (by omega), wrapI (x := cI1 f0 i s - cI0 f0 i s + 1) (by omega) (by omega), wrapI (x := cJ1 f0 i s - cJ0 f0 i s + 1) (by omega) (by omega)]
  have b := mulB (x := cI1 f0 i s - cI0 f0 i s + 1) (p := cJ1 f0 i s - cJ0 f0 i s + 1) (A := 300000) (B := 300000) (by omega) (by omega) (by omega) (by omega)
  exact wrapI (by omega) (by omega)
theorem pat_len {f0 : Nat -> List V} {i s : Int} {q : Int -> Int -> Bool} (h : GridIn f0 i s) (hm : ¬ 4000 < patM f0 i s) : (patT q f0 i s).length <= 4000 := by
  have h1 := gridF_len (q := q) (i0 := cI0 f0 i s) (W := (cI1 f0 i s - cI0 f0 i s + 1).toNat) (cJ1 f0 i s - cJ0 f0 i s + 1).toNat (cJ0 f0 i s)
  have := h.wi; have := h.wj
  have e1 : (((cI1 f0 i s - cI0 f0 i s + 1).toNat : Nat) : Int) = cI1 f0 i s - cI0 f0 i s + 1 := by omega
  have e2 : (((cJ1 f0 i s - cJ0 f0 i s + 1).toNat : Nat) : Int) = cJ1 f0 i s - cJ0 f0 i s + 1 := by omega
  have e3 : (((cJ1 f0 i s - cJ0 f0 i s + 1).toNat * (cI1 f0 i s - cI0 f0 i s + 1).toNat : Nat) : Int) = patM f0 i s := by
    unfold patM; rw [Int.natCast_mul, e1, e2, Int.mul_comm]
  unfold patT
  omega
theorem w1i {i : Int} (h1 : -1000000 <= i) (h2 : i <= 1000000) : i64.wrap (i + 1) = i + 1 := wrapI (by omega) (by omega)
theorem grid35 (n0 : Nat) (f0 : FnV) (n2 : Nat) (f2 : FnV) (n4 : Nat) (f4 : FnV) (n6 : Nat) (f6 : FnV) (x8 x9 : Int) (hg : GridIn f0 x8 x9) {e : Int} {bad : Bool} (he : (e != 0) = false) (hb : bad = false) (hm : ¬ 4000 < patM f0 x8 x9) (x j' : Int) :
    Ev (st35 n0 f0 n2 f2 n4 f4 n6 f6 x8 x9) (.L1 (cJ0 f0 x8 x9) 0 x (fun _ => []) (cI1 f0 x8 x9) (cJ1 f0 x8 x9) (cI0 f0 x8 x9) j') (patR (sqP x9) (patE e bad (patM f0 x8 x9) (patT (qP f0 x8 x9) f0 x8 x9)) (patT (qP f0 x8 x9) f0 x8 x9)) := by
  have b0 := hg.i0; have b1 := hg.i1; have b2 := hg.j0; have b3 := hg.j1; have b4 := hg.wi; have b5 := hg.wj
  have hlen := pat_len (q := qP f0 x8 x9) hg hm
  generalize hr : patR (sqP x9) (patE e bad (patM f0 x8 x9) (patT (qP f0 x8 x9) f0 x8 x9)) (patT (qP f0 x8 x9) f0 x8 x9) = r
  refine grid_ind (q := qP f0 x8 x9) (i0 := cI0 f0 x8 x9) (i1 := cI1 f0 x8 x9) (j0 := cJ0 f0 x8 x9) (j1 := cJ1 f0 x8 x9) (W := (cI1 f0 x8 x9 - cI0 f0 x8 x9 + 1).toNat) (Tot := patT (qP f0 x8 x9) f0 x8 x9)
    (P1 := fun j acc => ∀ n f, LR (sqP x9) n f acc -> acc.length <= 400 -> Ev (st35 n0 f0 n2 f2 n4 f4 n6 f6 x8 x9) (.L1 j n x f (cI1 f0 x8 x9) (cJ1 f0 x8 x9) (cI0 f0 x8 x9) j') r)
    (P2 := fun i j acc => ∀ n f, LR (sqP x9) n f acc -> acc.length <= 400 -> Ev (st35 n0 f0 n2 f2 n4 f4 n6 f6 x8 x9) (.L2 i j n x f (cI1 f0 x8 x9) (cJ1 f0 x8 x9) (cI0 f0 x8 x9) j') r)
    (by omega) ?_ ?_ ?_ ?_ ?_ (cJ1 f0 x8 x9 - cJ0 f0 x8 x9 + 1).toNat _ [] (Int.le_refl _) (by omega) rfl _ _ (LR.nil _ _) (by simp)
  · intro j acc h1 h2 hx n f hL hl
    exact Ev.of rfl (evObt (evBrT (decide_eq_true h2) (evObt (evEnter (hx _ _ hL.view hl)))))
  · intro n f hL hl
    refine Ev.of rfl (evObt (evBrF (decide_eq_false (by omega)) ?_))
    have hn := hL.1
    refine evBrF (decide_eq_false (by omega)) (evOb (decide_eq_true (Nat.le_refl _)) (evRet ?_))
    rw [← hr, patE_5 he hb hm (by omega)]
    exact patR_ok0 hL fun _ _ => rfl
  · intro i j acc h1 h2 h3 h4 hq hT hx n f hL hl
    have hn := hL.1
    refine Ev.of rfl (evObt (evBrT (decide_eq_true h2) (evObc (evObt (evBrF ?_ (evObt (evOb ?_ (evBr (fun h400 => evBrx h400 (evObt (evRet ?_))) (fun h400 => evNext ?_)))))))))
    · have : (F61 (npt f0 x8) (ptf f0 x8) (wid f0 x8) (i64.wrap (i * x9)) (i64.wrap (j * x9)) (i64.wrap (i64.wrap (i + 1) * x9)) (i64.wrap (i64.wrap (j + 1) * x9)) != 0) = true := hq
      exact tnF this
    · simp only [Bool.and_eq_true]; exact ⟨decide_eq_true ⟨Nat.le_refl _, by omega⟩, rfl⟩
    · have := of_decide_eq_true h400
      rw [← hr, patE_4 he hb hm (by omega)]
      exact patR_err (by decide)
    · have := of_decide_eq_false h400
      rw [w1i (by omega) (by omega)]
      exact hx _ _ (hL.snoc (by rw [← w1i (i := i) (by omega) (by omega)]; rfl) rfl) (by simp; omega)
  · intro i j acc h1 h2 h3 h4 hq hx n f hL hl
    refine Ev.of rfl (evObt (evBrT (decide_eq_true h2) (evObc (evObt (evBrT ?_ (evNext ?_))))))
    · have : (F61 (npt f0 x8) (ptf f0 x8) (wid f0 x8) (i64.wrap (i * x9)) (i64.wrap (j * x9)) (i64.wrap (i64.wrap (i + 1) * x9)) (i64.wrap (i64.wrap (j + 1) * x9)) != 0) = false := hq
      exact tnT this
    · rw [w1i (by omega) (by omega)]
      exact hx _ _ hL.view hl
  · intro j acc h1 h2 hx n f hL hl
    refine Ev.of rfl (evObt (evBrF (decide_eq_false (by omega)) (evNext ?_)))
    rw [w1i (by omega) (by omega)]
    exact hx _ _ hL.view hl
theorem box35 (n0 : Nat) (f0 : FnV) (n2 : Nat) (f2 : FnV) (n4 : Nat) (f4 : FnV) (n6 : Nat) (f6 : FnV) (x8 x9 : Int) (hg : GridIn f0 x8 x9) (he : (F44 n0 (elV tyR f0) n2 (elV tyT f2) n4 (elV tyF f4) n6 (elV tyC f6) 2 (elV tp1 (secF [vi x8, vi (n0 : Int)] 0 ((1 + 1 - 0) / 2))) != 0) = false) (hb : F86_0 x9 100 100000 = false) : ∀ k, k <= npt f0 x8 -> Ev (st35 n0 f0 n2 f2 n4 f4 n6 f6 x8 x9) (.L0 (k : Int) (mxTo (gxp f0 x8) k) (mxTo (gyp f0 x8) k) (mnTo (gxp f0 x8) k) (mnTo (gyp f0 x8) k)) (patR (sqP x9) (patE (F44 n0 (elV tyR f0) n2 (elV tyT f2) n4 (elV tyF f4) n6 (elV tyC f6) 2 (elV tp1 (secF [vi x8, vi (n0 : Int)] 0 ((1 + 1 - 0) / 2)))) (F86_0 x9 100 100000) (patM f0 x8 x9) (patT (qP f0 x8 x9) f0 x8 x9)) (patT (qP f0 x8 x9) f0 x8 x9)) := by
  have b0 := hg.mx; have b1 := hg.my; have b2 := hg.lx; have b3 := hg.ly; have b4 := hg.w1; have b5 := hg.w2; have b6 := hg.s1; have b7 := hg.s2
  have hw := patM_w hg
  have hn8 := hg.n8
  have d1 : F81_0 (i64.wrap (mxTo (gxp f0 x8) (npt f0 x8) + wid f0 x8)) x9 = cI1 f0 x8 x9 := by rw [wrapI (by omega) (by omega)]; exact down_p (by omega) (by omega) (by omega) (by omega)
  have d2 : F81_0 (i64.wrap (mnTo (gxp f0 x8) (npt f0 x8) - wid f0 x8)) x9 = cI0 f0 x8 x9 := by rw [wrapI (by omega) (by omega)]; exact down_p (by omega) (by omega) (by omega) (by omega)
  have d3 : F81_0 (i64.wrap (mxTo (gyp f0 x8) (npt f0 x8) + wid f0 x8)) x9 = cJ1 f0 x8 x9 := by rw [wrapI (by omega) (by omega)]; exact down_p (by omega) (by omega) (by omega) (by omega)
  have d4 : F81_0 (i64.wrap (mnTo (gyp f0 x8) (npt f0 x8) - wid f0 x8)) x9 = cJ0 f0 x8 x9 := by rw [wrapI (by omega) (by omega)]; exact down_p (by omega) (by omega) (by omega) (by omega)
  generalize hr : patR (sqP x9) (patE (F44 n0 (elV tyR f0) n2 (elV tyT f2) n4 (elV tyF f4) n6 (elV tyC f6) 2 (elV tp1 (secF [vi x8, vi (n0 : Int)] 0 ((1 + 1 - 0) / 2)))) (F86_0 x9 100 100000) (patM f0 x8 x9) (patT (qP f0 x8 x9) f0 x8 x9)) (patT (qP f0 x8 x9) f0 x8 x9) = r
  refine up_ind fun k hk ih => ?_
  by_cases hlt : k < npt f0 x8
  · refine Ev.of rfl (evBrT (decide_eq_true (by show (k : Int) < (npt f0 x8 : Int); omega)) (evOb (decide_eq_true ⟨by omega, by show (k : Int) < (npt f0 x8 : Int); omega⟩) ?_))
    iterate 15 (first | refine evBrt ?_ | refine evBrf ?_ | refine evObt ?_)
    refine evNext ?_
    have := ih hlt
    rw [wrapS hlt (by omega)]
    exact this
  · have e1 : k = npt f0 x8 := by omega
    subst e1
    refine Ev.of rfl (evBrF (decide_eq_false (by show ¬ (npt f0 x8 : Int) < (npt f0 x8 : Int); omega)) ?_)
    have hx9 : x9 = 0 -> False := by omega
    repeat (first | refine evObt ?_ | refine evBrt ?_ | refine evBrf ?_ | refine evObp hx9 ?_)
    show evR _ (.br (decide (4000 < i64.wrap (i64.wrap (i64.wrap (F81_0 (i64.wrap (mxTo (gxp f0 x8) (npt f0 x8) + wid f0 x8)) x9 - F81_0 (i64.wrap (mnTo (gxp f0 x8) (npt f0 x8) - wid f0 x8)) x9) + 1) * i64.wrap (i64.wrap (F81_0 (i64.wrap (mxTo (gyp f0 x8) (npt f0 x8) + wid f0 x8)) x9 - F81_0 (i64.wrap (mnTo (gyp f0 x8) (npt f0 x8) - wid f0 x8)) x9) + 1)))) _ _) _
    refine evBr (fun h => evObt (evRet ?_)) (fun h => evObt (evEnter ?_))
    · have h := of_decide_eq_true h
      rw [d1, d2, d3, d4, hw] at h
      rw [← hr, patE_3 he hb h]
      exact patR_err (by decide)
    · have h := of_decide_eq_false h
      rw [d1, d2, d3, d4, hw] at h
      show Ev _ (S35.L1 (F81_0 (i64.wrap (mnTo (gyp f0 x8) (npt f0 x8) - wid f0 x8)) x9) 0 _ _ (F81_0 (i64.wrap (mxTo (gxp f0 x8) (npt f0 x8) + wid f0 x8)) x9) (F81_0 (i64.wrap (mxTo (gyp f0 x8) (npt f0 x8) + wid f0 x8)) x9) (F81_0 (i64.wrap (mnTo (gxp f0 x8) (npt f0 x8) - wid f0 x8)) x9) _) _
      rw [d1, d2, d3, d4, ← hr]
      exact grid35 _ _ _ _ _ _ _ _ _ _ hg he hb h _ _
theorem bad_in {x l h : Int} (hb : F86_0 x l h = false) : l <= x /\ x <= h := by
  unfold F86_0 at hb
  by_cases h1 : x < l
  · rw [decide_eq_true h1] at hb; cases hb
  · rw [decide_eq_false h1, cond_false] at hb
    have := of_decide_eq_false hb; omega
theorem z35 (n0 : Nat) (f0 : FnV) (n2 : Nat) (f2 : FnV) (n4 : Nat) (f4 : FnV) (n6 : Nat) (f6 : FnV) (x8 x9 : Int) (he : (F44 n0 (elV tyR f0) n2 (elV tyT f2) n4 (elV tyF f4) n6 (elV tyC f6) 2 (elV tp1 (secF [vi x8, vi (n0 : Int)] 0 ((1 + 1 - 0) / 2))) != 0) = false) : (0 <= x8 /\ x8 < n0) /\ RoadIn (npt f0 x8) (ptf f0 x8) (wid f0 x8) := by
  have e0 : F44 n0 (elV tyR f0) n2 (elV tyT f2) n4 (elV tyF f4) n6 (elV tyC f6) 2 (elV tp1 (secF [vi x8, vi (n0 : Int)] 0 ((1 + 1 - 0) / 2))) = 0 := by simpa using he
  have hc := chk2 (n0 := n0) (f0 := f0) (n2 := n2) (f2 := f2) (n4 := n4) (f4 := f4) (n6 := n6) (f6 := f6) (i := x8) (m := n0) (fun h => by have := (valid h).l0; omega)
  have hz : ix1 (F24_2 n0 (elV tyR f0) n2 (elV tyT f2) n4 (elV tyF f4) n6 (elV tyC f6)) x8 n0 = 0 := hc.symm.trans e0
  exact ⟨(ix1_zero hz).2, ix_road hz⟩
theorem z36 (n0 : Nat) (f0 : FnV) (n2 : Nat) (f2 : FnV) (n4 : Nat) (f4 : FnV) (n6 : Nat) (f6 : FnV) (x8 x9 : Int) (he : (F50_0 n0 (elV tyR f0) n2 (elV tyT f2) n4 (elV tyF f4) n6 (elV tyC f6) x8 (n0 : Int) != 0) = false) : (0 <= x8 /\ x8 < n0) /\ RoadIn (npt f0 x8) (ptf f0 x8) (wid f0 x8) := by
  have e0 : F50_0 n0 (elV tyR f0) n2 (elV tyT f2) n4 (elV tyF f4) n6 (elV tyC f6) x8 (n0 : Int) = 0 := by simpa using he
  have hz : ix1 (F24_2 n0 (elV tyR f0) n2 (elV tyT f2) n4 (elV tyF f4) n6 (elV tyC f6)) x8 n0 = 0 := (chk50 (i := x8) (m := n0)).symm.trans e0
  exact ⟨(ix1_zero hz).2, ix_road hz⟩
theorem ev35_0 (n0 : Nat) (f0 : FnV) (n2 : Nat) (f2 : FnV) (n4 : Nat) (f4 : FnV) (n6 : Nat) (f6 : FnV) (x8 x9 : Int) (hp : SzOk n0 f0 /\ SzOk n6 f6) : evR (Ev (st35 n0 f0 n2 f2 n4 f4 n6 f6 x8 x9)) (m35 n0 f0 n2 f2 n4 f4 n6 f6 x8 x9) (patR (sqP x9) (patE (F44 n0 (elV tyR f0) n2 (elV tyT f2) n4 (elV tyF f4) n6 (elV tyC f6) 2 (elV tp1 (secF [vi x8, vi (n0 : Int)] 0 ((1 + 1 - 0) / 2)))) (F86_0 x9 100 100000) (patM f0 x8 x9) (patT (qP f0 x8 x9) f0 x8 x9)) (patT (qP f0 x8 x9) f0 x8 x9)) := evAsm1 fun hn => evObp ⟨hp, rfl, by decide⟩ (evObt (evBr (fun h => evObt (evRet (by rw [patE_1 h]; exact patR_err (by simpa using h)))) (fun h => evObc (evObt (evBr (fun h2 => evObt (evRet (by rw [patE_2 h h2]; exact patR_err (by decide)))) (fun h2 => by
  obtain ⟨⟨z1, z2⟩, hr⟩ := z35 n0 f0 n2 f2 n4 f4 n6 f6 x8 x9 h
  have hb := bad_in h2
  have hg := grid_in hr hb.1 hb.2
  have n2' := hg.n2
  have l0 : (0 : Int) < (npt f0 x8 : Int) := by omega
  exact evOb (decide_eq_true ⟨z1, z2⟩) (evOb (decide_eq_true ⟨Int.le_refl _, l0⟩) (evOb (decide_eq_true ⟨Int.le_refl _, l0⟩) (evAsm1 fun _ => evEnter (box35 _ _ _ _ _ _ _ _ _ _ hg h h2 0 (Nat.zero_le _)))))))))))
def F35_e (n0 : Nat) (f0 : FnV) (n2 : Nat) (f2 : FnV) (n4 : Nat) (f4 : FnV) (n6 : Nat) (f6 : FnV) (x8 x9 : Int) : Int := patE (F44 n0 (elV tyR f0) n2 (elV tyT f2) n4 (elV tyF f4) n6 (elV tyC f6) 2 (elV tp1 (secF [vi x8, vi (n0 : Int)] 0 ((1 + 1 - 0) / 2)))) (F86_0 x9 100 100000) (patM f0 x8 x9) (patT (qP f0 x8 x9) f0 x8 x9)
def F35_n (n0 : Nat) (f0 : FnV) (n2 : Nat) (f2 : FnV) (n4 : Nat) (f4 : FnV) (n6 : Nat) (f6 : FnV) (x8 x9 : Int) : Nat := (patL (F35_e n0 f0 n2 f2 n4 f4 n6 f6 x8 x9) (patT (qP f0 x8 x9) f0 x8 x9)).length
def F35_f (n0 : Nat) (f0 : FnV) (n2 : Nat) (f2 : FnV) (n4 : Nat) (f4 : FnV) (n6 : Nat) (f6 : FnV) (x8 x9 : Int) : Nat -> List V := boxF (sqP x9) (patL (F35_e n0 f0 n2 f2 n4 f4 n6 f6 x8 x9) (patT (qP f0 x8 x9) f0 x8 x9))
theorem ev35 (n0 : Nat) (f0 : FnV) (n2 : Nat) (f2 : FnV) (n4 : Nat) (f4 : FnV) (n6 : Nat) (f6 : FnV) (x8 x9 : Int) (hp : SzOk n0 (elV tyR f0) /\ SzOk n6 (elV tyC f6)) : evR (Ev (st35 n0 f0 n2 f2 n4 f4 n6 f6 x8 x9)) (m35 n0 f0 n2 f2 n4 f4 n6 f6 x8 x9) (.tup [.sl (F35_n n0 (elV tyR f0) n2 (elV tyT f2) n4 (elV tyF f4) n6 (elV tyC f6) x8 x9) (elV ty4 (F35_f n0 (elV tyR f0) n2 (elV tyT f2) n4 (elV tyF f4) n6 (elV tyC f6) x8 x9)), .int .i64 (F35_e n0 (elV tyR f0) n2 (elV tyT f2) n4 (elV tyF f4) n6 (elV tyC f6) x8 x9)]) := by
  show evR _ _ (patR (sqP x9) (patE (F44 n0 (elV tyR (elV tyR f0)) n2 (elV tyT (elV tyT f2)) n4 (elV tyF (elV tyF f4)) n6 (elV tyC (elV tyC f6)) 2 (elV tp1 (secF [vi x8, vi (n0 : Int)] 0 ((1 + 1 - 0) / 2)))) (F86_0 x9 100 100000) (patM (elV tyR f0) x8 x9) (patT (qP (elV tyR f0) x8 x9) (elV tyR f0) x8 x9)) (patT (qP (elV tyR f0) x8 x9) (elV tyR f0) x8 x9))
  rw [elV2, elV2, elV2, elV2, patT_v, patM_v]; exact ev35_0 n0 f0 n2 f2 n4 f4 n6 f6 x8 x9 hp
def R35 : List V -> V
  | [.agg [.sl n0 f0, .sl n2 f2, .sl n4 f4, .sl n6 f6], .int _ x8, .int _ x9] => .tup [.sl (F35_n n0 f0 n2 f2 n4 f4 n6 f6 x8 x9) (elV ty4 (F35_f n0 f0 n2 f2 n4 f4 n6 f6 x8 x9)), .int .i64 (F35_e n0 f0 n2 f2 n4 f4 n6 f6 x8 x9)]
  | _ => .any
def P35 : List V -> Prop
  | [.agg [.sl n0 f0, .sl n2 f2, .sl n4 f4, .sl n6 f6], .int _ x8, .int _ x9] => SzOk n0 f0 /\ SzOk n6 f6
  | _ => False
def tys35 : List Ty := [.agg [.sl tyR, .sl tyT, .sl tyF, .sl tyC], .int .i64, .int .i64]
def C35 : PCon := mkC tys35 P35 R35
theorem okl35 : ∀ ds d p r, C35 ds = some (d, p, r) -> d.1 = d.2 -> p -> okL 4 r := mkC_okL fun ds _ => patR_ok
theorem ok35 : (vL 4 29 C35).Ok Tryz.prog 35 := mkEL tabB26 Tryz.func35 (by kernel_rfl) fun ds hp => rfs (run35 ..) (ev35 _ _ _ _ _ _ _ _ _ _ hp)
inductive S36 where
  | L0 (i_100 i_101 i_102 : Int)
  | L2 (i_300 : Int) (n_301 : Nat) (i_302 i_303 i_304 : Int) (f_305 : Nat -> List V)
  | L3 (i_400 i_401 : Int) (n_402 : Nat) (i_403 i_404 i_405 : Int) (f_406 : Nat -> List V)
  | L4 (i_500 i_501 i_502 i_503 i_504 i_505 : Int)
def inv36 (n0 : Nat) (f0 : FnV) (n2 : Nat) (f2 : FnV) (n4 : Nat) (f4 : FnV) (n6 : Nat) (f6 : FnV) (x8 x9 : Int) : S36 -> Env × List O × Option Ex
  | .L0 i_100 i_101 i_102 => ([(8, vi i_100), (7, vi i_101), (6, vi i_102), (20, vi (iv (hdV (atV (hdV (tlV (tlV (f0 x8.toNat)))) 0)))), (19, V.pd [vi (iv (hdV (atV (hdV (tlV (tlV (f0 x8.toNat)))) 0))), vi (iv (hdV (tlV (atV (hdV (tlV (tlV (f0 x8.toNat)))) 0))))]), (18, V.pd [vi (iv (hdV (atV (hdV (tlV (tlV (f0 x8.toNat)))) 0))), vi (iv (hdV (tlV (atV (hdV (tlV (tlV (f0 x8.toNat)))) 0))))]), (17, vi 0), (15, V.pl 2 2), (14, vi (iv (hdV (atV (hdV (tlV (tlV (f0 x8.toNat)))) 0)))), (9, V.pl 2 2), (2, V.pl 2 0), (1, vi 0)], [O.cells [V.sl n0 (elV tyR f0), V.sl n2 (elV tyT f2), V.sl n4 (elV tyF f4), V.sl n6 (elV tyC f6)] 27, O.cells [V.str (sv (hdV (f0 x8.toNat))), vi (iv (hdV (tlV (f0 x8.toNat)))), V.sl (lenV (hdV (tlV (tlV (f0 x8.toNat))))) fun i => views tp2 (atV (hdV (tlV (tlV (f0 x8.toNat)))) i), vi (iv (hdV (tlV (tlV (tlV (f0 x8.toNat))))))] 54, O.cells [V.str (sv (hdV (f0 x8.toNat))), vi (iv (hdV (tlV (f0 x8.toNat)))), V.sl (lenV (hdV (tlV (tlV (f0 x8.toNat))))) fun i => views tp2 (atV (hdV (tlV (tlV (f0 x8.toNat)))) i), vi (iv (hdV (tlV (tlV (tlV (f0 x8.toNat))))))] 54], none)
  | .L2 i_300 n_301 i_302 i_303 i_304 f_305 => ([(19, vi i_300), (18, V.gs 0 n_301), (17, vi i_302), (15, vi i_303), (14, vi i_304), (9, V.pl 1 0), (8, vi (F50_0 n0 (elV tyR f0) n2 (elV tyT f2) n4 (elV tyF f4) n6 (elV tyC f6) x8 (↑n0 : Int))), (7, vi 0), (6, V.ns), (1, vi x8), (2, vi x9)], [O.gl 4 n_301 (elV tp4 f_305) 29, O.cells [V.str (sv (hdV (f0 x8.toNat))), vi (iv (hdV (tlV (f0 x8.toNat)))), V.sl (lenV (hdV (tlV (tlV (f0 x8.toNat))))) fun i => views tp2 (atV (hdV (tlV (tlV (f0 x8.toNat)))) i), vi (iv (hdV (tlV (tlV (tlV (f0 x8.toNat))))))] 54], none)
  | .L3 i_400 i_401 n_402 i_403 i_404 i_405 f_406 => ([(20, vi i_400), (19, vi i_401), (18, V.gs 0 n_402), (17, vi i_403), (15, vi i_404), (14, vi i_405), (9, V.pl 1 0), (8, vi (F50_0 n0 (elV tyR f0) n2 (elV tyT f2) n4 (elV tyF f4) n6 (elV tyC f6) x8 (↑n0 : Int))), (7, vi 0), (6, V.ns), (1, vi x8), (2, vi x9)], [O.gl 4 n_402 (elV tp4 f_406) 29, O.cells [V.str (sv (hdV (f0 x8.toNat))), vi (iv (hdV (tlV (f0 x8.toNat)))), V.sl (lenV (hdV (tlV (tlV (f0 x8.toNat))))) fun i => views tp2 (atV (hdV (tlV (tlV (f0 x8.toNat)))) i), vi (iv (hdV (tlV (tlV (tlV (f0 x8.toNat))))))] 54], none)
  | .L4 i_500 i_501 i_502 i_503 i_504 i_505 => ([(8, vi i_500), (7, vi i_501), (6, vi i_502), (20, vi (iv (hdV (tlV (atV (hdV (tlV (tlV (f0 x8.toNat)))) 0))))), (19, V.pd [vi (iv (hdV (tlV (atV (hdV (tlV (tlV (f0 x8.toNat)))) 0))))]), (18, V.pd [vi (iv (hdV (atV (hdV (tlV (tlV (f0 x8.toNat)))) 0))), vi (iv (hdV (tlV (atV (hdV (tlV (tlV (f0 x8.toNat)))) 0))))]), (17, vi 1), (15, V.pl 3 2), (14, vi (iv (hdV (tlV (atV (hdV (tlV (tlV (f0 x8.toNat)))) 0))))), (9, V.pl 3 2), (2, V.pl 3 0), (1, vi 1)], [O.cells [V.sl n0 (elV tyR f0), V.sl n2 (elV tyT f2), V.sl n4 (elV tyF f4), V.sl n6 (elV tyC f6)] 27, O.cells [V.str (sv (hdV (f0 x8.toNat))), vi (iv (hdV (tlV (f0 x8.toNat)))), V.sl (lenV (hdV (tlV (tlV (f0 x8.toNat))))) fun i => views tp2 (atV (hdV (tlV (tlV (f0 x8.toNat)))) i), vi (iv (hdV (tlV (tlV (tlV (f0 x8.toNat))))))] 54, O.cells [V.str (sv (hdV (f0 x8.toNat))), vi (iv (hdV (tlV (f0 x8.toNat)))), V.sl (lenV (hdV (tlV (tlV (f0 x8.toNat))))) fun i => views tp2 (atV (hdV (tlV (tlV (f0 x8.toNat)))) i), vi (iv (hdV (tlV (tlV (tlV (f0 x8.toNat))))))] 54, O.cells [V.str (sv (hdV (f0 x8.toNat))), vi (iv (hdV (tlV (f0 x8.toNat)))), V.sl (lenV (hdV (tlV (tlV (f0 x8.toNat))))) fun i => views tp2 (atV (hdV (tlV (tlV (f0 x8.toNat)))) i), vi (iv (hdV (tlV (tlV (tlV (f0 x8.toNat))))))] 54], none)
def id36 : S36 -> JJ
  | .L0 i_100 i_101 i_102 => (0, [])
  | .L2 i_300 n_301 i_302 i_303 i_304 f_305 => (2, [])
  | .L3 i_400 i_401 n_402 i_403 i_404 i_405 f_406 => (3, [])
  | .L4 i_500 i_501 i_502 i_503 i_504 i_505 => (4, [Cx.i i_503, Cx.i i_504, Cx.i i_505])
def rl36 (n0 : Nat) (f0 : FnV) (n2 : Nat) (f2 : FnV) (n4 : Nat) (f4 : FnV) (n6 : Nat) (f6 : FnV) (x8 x9 : Int) : T (Leaf JJ) := runLL JJ 4 29 ctB26 u0 s36 [scV n0 f0 n2 f2 n4 f4 n6 f6, vi x8, vi x9]
def lp36_0 (n0 : Nat) (f0 : FnV) (n2 : Nat) (f2 : FnV) (n4 : Nat) (f4 : FnV) (n6 : Nat) (f6 : FnV) (x8 x9 : Int) (cx : List Cx) : Lp JJ := lpT (atT (rl36 n0 f0 n2 f2 n4 f4 n6 f6 x8 x9) [true, false, false])
def lp36_4 (n0 : Nat) (f0 : FnV) (n2 : Nat) (f2 : FnV) (n4 : Nat) (f4 : FnV) (n6 : Nat) (f6 : FnV) (x8 x9 : Int) (cx : List Cx) : Lp JJ := lpT (atT (rdT ctB26 u0 (0, []) (lp36_0 n0 f0 n2 f2 n4 f4 n6 f6 x8 x9 []) (inv36 n0 f0 n2 f2 n4 f4 n6 f6 x8 x9 (.L0 (cxi cx 0) (cxi cx 1) (cxi cx 2))).1 (inv36 n0 f0 n2 f2 n4 f4 n6 f6 x8 x9 (.L0 (cxi cx 0) (cxi cx 1) (cxi cx 2))).2.1 (inv36 n0 f0 n2 f2 n4 f4 n6 f6 x8 x9 (.L0 (cxi cx 0) (cxi cx 1) (cxi cx 2))).2.2) [false])
def lp36_2 (n0 : Nat) (f0 : FnV) (n2 : Nat) (f2 : FnV) (n4 : Nat) (f4 : FnV) (n6 : Nat) (f6 : FnV) (x8 x9 : Int) (cx : List Cx) : Lp JJ := lpT (atT (rdT ctB26 u0 (4, [.i (0 : Int), .i (0 : Int), .i (0 : Int)]) (lp36_4 n0 f0 n2 f2 n4 f4 n6 f6 x8 x9 [.i (0 : Int), .i (0 : Int), .i (0 : Int)]) (inv36 n0 f0 n2 f2 n4 f4 n6 f6 x8 x9 (.L4 (0 : Int) (0 : Int) (0 : Int) (0 : Int) (0 : Int) (0 : Int))).1 (inv36 n0 f0 n2 f2 n4 f4 n6 f6 x8 x9 (.L4 (0 : Int) (0 : Int) (0 : Int) (0 : Int) (0 : Int) (0 : Int))).2.1 (inv36 n0 f0 n2 f2 n4 f4 n6 f6 x8 x9 (.L4 (0 : Int) (0 : Int) (0 : Int) (0 : Int) (0 : Int) (0 : Int))).2.2) [false, false])
def lp36_3 (n0 : Nat) (f0 : FnV) (n2 : Nat) (f2 : FnV) (n4 : Nat) (f4 : FnV) (n6 : Nat) (f6 : FnV) (x8 x9 : Int) (cx : List Cx) : Lp JJ := lpT (atT (rdT ctB26 u0 (2, []) (lp36_2 n0 f0 n2 f2 n4 f4 n6 f6 x8 x9 []) (inv36 n0 f0 n2 f2 n4 f4 n6 f6 x8 x9 (.L2 (0 : Int) 0 (0 : Int) (0 : Int) (0 : Int) (fun _ => []))).1 (inv36 n0 f0 n2 f2 n4 f4 n6 f6 x8 x9 (.L2 (0 : Int) 0 (0 : Int) (0 : Int) (0 : Int) (fun _ => []))).2.1 (inv36 n0 f0 n2 f2 n4 f4 n6 f6 x8 x9 (.L2 (0 : Int) 0 (0 : Int) (0 : Int) (0 : Int) (fun _ => []))).2.2) [true])
def lp36 (n0 : Nat) (f0 : FnV) (n2 : Nat) (f2 : FnV) (n4 : Nat) (f4 : FnV) (n6 : Nat) (f6 : FnV) (x8 x9 : Int) : JJ -> Lp JJ
  | (0, cx) => lp36_0 n0 f0 n2 f2 n4 f4 n6 f6 x8 x9 cx
  | (2, cx) => lp36_2 n0 f0 n2 f2 n4 f4 n6 f6 x8 x9 cx
  | (3, cx) => lp36_3 n0 f0 n2 f2 n4 f4 n6 f6 x8 x9 cx
  | (4, cx) => lp36_4 n0 f0 n2 f2 n4 f4 n6 f6 x8 x9 cx
  | (_, cx) => lp36_0 n0 f0 n2 f2 n4 f4 n6 f6 x8 x9 cx
def D36 (n0 : Nat) (f0 : FnV) (n2 : Nat) (f2 : FnV) (n4 : Nat) (f4 : FnV) (n6 : Nat) (f6 : FnV) (x8 x9 : Int) : LD JJ S36 := ⟨id36, lp36 n0 f0 n2 f2 n4 f4 n6 f6 x8 x9, inv36 n0 f0 n2 f2 n4 f4 n6 f6 x8 x9⟩
def st36 (n0 : Nat) (f0 : FnV) (n2 : Nat) (f2 : FnV) (n4 : Nat) (f4 : FnV) (n6 : Nat) (f6 : FnV) (x8 x9 : Int) : S36 -> RT S36
  | .L0 i_100 i_101 i_102 => .asm (true = true -> lenV (hdV (tlV (tlV (f0 x8.toNat)))) <= 9223372036854775807) (.br (decide (i_100 < (↑(lenV (hdV (tlV (tlV (f0 x8.toNat))))) : Int))) (.ob (decide (0 <= i_100 /\ i_100 < (↑(lenV (hdV (tlV (tlV (f0 x8.toNat))))) : Int))) (.obt (.ob (decide (0 <= i_100 /\ i_100 < (↑(lenV (hdV (tlV (tlV (f0 x8.toNat))))) : Int))) (.obt (.next [some (some 0), some (some 1), some (some 2)] (S36.L0 (i64.wrap (i_100 + 1)) (max i_101 (iv (hdV (atV (hdV (tlV (tlV (f0 x8.toNat)))) i_100.toNat)))) (min i_102 (iv (hdV (atV (hdV (tlV (tlV (f0 x8.toNat)))) i_100.toNat))))) []))))) (.ob (decide ((0 : Int) <= 0 /\ 0 < (↑(lenV (hdV (tlV (tlV (f0 x8.toNat))))) : Int))) (.obt (.ob (decide ((0 : Int) <= 0 /\ 0 < (↑(lenV (hdV (tlV (tlV (f0 x8.toNat))))) : Int))) (.obt (.enter [some (some 0), some (some 1), some (some 2), some (some 3)] (S36.L4 (0) (iv (hdV (tlV (atV (hdV (tlV (tlV (f0 x8.toNat)))) 0)))) (iv (hdV (tlV (atV (hdV (tlV (tlV (f0 x8.toNat)))) 0)))) (i_100) (i_101) (i_102)) []))))))
  | .L2 i_300 n_301 i_302 i_303 i_304 f_305 => .br (decide (i_300 <= i_302)) (.enter [some (some 0), some (some 1)] (S36.L3 (i_304) (i_300) (n_301) (i_302) (i_303) (i_304) (elV tp4 f_305)) [⟨0, tp4, n_301, elV tp4 f_305, vf_view rfl _ _⟩]) (.br (decide (400 < (↑n_301 : Int))) (.obt (.ret (V.tup [V.sl 0 fun x => [], vi 3]))) (.ob (decide (n_301 <= n_301)) (.ret (V.tup [V.sl n_301 (elV tp4 f_305), vi 0]))))
  | .L3 i_400 i_401 n_402 i_403 i_404 i_405 f_406 => .br (decide (i_400 <= i_404)) (.obc (.obt (.br (F76 (lenV (hdV (tlV (tlV (f0 x8.toNat))))) (fun i => views tp2 (atV (hdV (tlV (tlV (f0 x8.toNat)))) i)) (iv (hdV (tlV (tlV (tlV (f0 x8.toNat)))))) (i64.wrap (i_400 * x9)) (i64.wrap (i_401 * x9)) (i64.wrap (i64.wrap (i_400 * x9) + x9)) (i64.wrap (i64.wrap (i_401 * x9) + x9)) != 0) (.obt (.ob (decide (n_402 <= n_402 /\ (n_402 + 1) * 32 <= 140737488355328) && !Nat.beq 32 0) (.next [some (some 4), some (some 1)] (S36.L3 (i64.wrap (i_400 + 1)) (i_401) (n_402 + 1) (i_403) (i_404) (i_405) (joinF n_402 (elV tp4 f_406) fun x => [vi (i64.wrap (i_400 * x9)), vi (i64.wrap (i_401 * x9)), vi (i64.wrap (i64.wrap (i_400 * x9) + x9)), vi (i64.wrap (i64.wrap (i_401 * x9) + x9))])) [⟨0, tp4, n_402 + 1, joinF n_402 (elV tp4 f_406) fun x => [vi (i64.wrap (i_400 * x9)), vi (i64.wrap (i_401 * x9)), vi (i64.wrap (i64.wrap (i_400 * x9) + x9)), vi (i64.wrap (i64.wrap (i_401 * x9) + x9))], vf_join (vf_view rfl _ _) (vf_const rfl _ rfl)⟩]))) (.next [some (some 0), some (some 1)] (S36.L3 (i64.wrap (i_400 + 1)) (i_401) (n_402) (i_403) (i_404) (i_405) (elV tp4 f_406)) [⟨0, tp4, n_402, elV tp4 f_406, vf_view rfl _ _⟩])))) (.next [some (some 0), some (some 1)] (S36.L2 (i64.wrap (i_401 + 1)) (n_402) (i_403) (i_404) (i_405) (elV tp4 f_406)) [⟨0, tp4, n_402, elV tp4 f_406, vf_view rfl _ _⟩])
  | .L4 i_500 i_501 i_502 i_503 i_504 i_505 => .asm (true = true -> lenV (hdV (tlV (tlV (f0 x8.toNat)))) <= 9223372036854775807) (.br (decide (i_500 < (↑(lenV (hdV (tlV (tlV (f0 x8.toNat))))) : Int))) (.ob (decide (0 <= i_500 /\ i_500 < (↑(lenV (hdV (tlV (tlV (f0 x8.toNat))))) : Int))) (.obt (.ob (decide (0 <= i_500 /\ i_500 < (↑(lenV (hdV (tlV (tlV (f0 x8.toNat))))) : Int))) (.obt (.next [some (some 0), some (some 1), some (some 2), some (some 3)] (S36.L4 (i64.wrap (i_500 + 1)) (max i_501 (iv (hdV (tlV (atV (hdV (tlV (tlV (f0 x8.toNat)))) i_500.toNat))))) (min i_502 (iv (hdV (tlV (atV (hdV (tlV (tlV (f0 x8.toNat)))) i_500.toNat))))) (i_503) (i_504) (i_505)) []))))) (.obp (x9 = (0 : Int) -> False) (.obt (.obp (x9 = (0 : Int) -> False) (.obt (.obp (x9 = (0 : Int) -> False) (.obt (.obp (x9 = (0 : Int) -> False) (.obt (.br (decide (4000 < i64.wrap (i64.wrap (i64.wrap (F88_0 (i64.wrap (i_504 + iv (hdV (tlV (tlV (tlV (f0 x8.toNat))))))) x9 - F88_0 (i64.wrap (i_505 - iv (hdV (tlV (tlV (tlV (f0 x8.toNat))))))) x9) + 1) * i64.wrap (i64.wrap (F88_0 (i64.wrap (i_501 + iv (hdV (tlV (tlV (tlV (f0 x8.toNat))))))) x9 - F88_0 (i64.wrap (i_502 - iv (hdV (tlV (tlV (tlV (f0 x8.toNat))))))) x9) + 1)))) (.obt (.ret (V.tup [V.sl 0 fun x => [], vi 3]))) (.enter [some none, some (some 1)] (S36.L2 (F88_0 (i64.wrap (i_502 - iv (hdV (tlV (tlV (tlV (f0 x8.toNat))))))) x9) (0) (F88_0 (i64.wrap (i_501 + iv (hdV (tlV (tlV (tlV (f0 x8.toNat))))))) x9) (F88_0 (i64.wrap (i_504 + iv (hdV (tlV (tlV (tlV (f0 x8.toNat))))))) x9) (F88_0 (i64.wrap (i_505 - iv (hdV (tlV (tlV (tlV (f0 x8.toNat))))))) x9) (fun i => [])) [])))))))))))
def m36 (n0 : Nat) (f0 : FnV) (n2 : Nat) (f2 : FnV) (n4 : Nat) (f4 : FnV) (n6 : Nat) (f6 : FnV) (x8 x9 : Int) : RT S36 := .asm (true = true -> n0 <= 9223372036854775807) (.obp ((∀ (i : Nat), i < n0 -> (sv (hdV (f0 i))).size <= (9223372036854775807 : Nat)) /\ ∀ (i : Nat), i < n6 -> (sv (hdV (f6 i))).size <= (9223372036854775807 : Nat)) (.obt (.br (F50_0 n0 (elV tyR f0) n2 (elV tyT f2) n4 (elV tyF f4) n6 (elV tyC f6) x8 (↑n0 : Int) == 0) (.ob (F50_0 n0 (elV tyR f0) n2 (elV tyT f2) n4 (elV tyF f4) n6 (elV tyC f6) x8 (↑n0 : Int) == 0) (.obc (.obt (.br (!F71_0 x9 100 100000) (.brt (.obt (.ret (V.tup [V.sl 0 fun x => [], vi 7])))) (.bry (F50_0 n0 (elV tyR f0) n2 (elV tyT f2) n4 (elV tyF f4) n6 (elV tyC f6) x8 (↑n0 : Int) != 0) (.ob (decide (0 <= x8 /\ x8 < (↑n0 : Int))) (.ob (decide ((0 : Int) <= 0 /\ 0 < (↑(lenV (hdV (tlV (tlV (f0 x8.toNat))))) : Int))) (.obt (.ob (decide ((0 : Int) <= 0 /\ 0 < (↑(lenV (hdV (tlV (tlV (f0 x8.toNat))))) : Int))) (.obt (.enter [some (some 0), some (some 1), some (some 2)] (S36.L0 (0) (iv (hdV (atV (hdV (tlV (tlV (f0 x8.toNat)))) 0))) (iv (hdV (atV (hdV (tlV (tlV (f0 x8.toNat)))) 0)))) []))))))))))) (.brx (F50_0 n0 (elV tyR f0) n2 (elV tyT f2) n4 (elV tyF f4) n6 (elV tyC f6) x8 (↑n0 : Int) != 0) (.obt (.ret (V.tup [V.sl 0 fun x => [], vi (F50_0 n0 (elV tyR f0) n2 (elV tyT f2) n4 (elV tyF f4) n6 (elV tyC f6) x8 (↑n0 : Int))])))))))
theorem run36 (n0 : Nat) (f0 : FnV) (n2 : Nat) (f2 : FnV) (n4 : Nat) (f4 : FnV) (n6 : Nat) (f6 : FnV) (x8 x9 : Int) : Fits ctB26 u0 (D36 n0 f0 n2 f2 n4 f4 n6 f6 x8 x9) (rl36 n0 f0 n2 f2 n4 f4 n6 f6 x8 x9) (m36 n0 f0 n2 f2 n4 f4 n6 f6 x8 x9) (st36 n0 f0 n2 f2 n4 f4 n6 f6 x8 x9) := ⟨⟨by kernel_rfl, by kernel_rfl⟩, fun s => match s with | .L0 i_100 i_101 i_102 => ⟨by kernel_rfl, by kernel_rfl⟩ | .L2 i_300 n_301 i_302 i_303 i_304 f_305 => ⟨by kernel_rfl, by kernel_rfl⟩ | .L3 i_400 i_401 n_402 i_403 i_404 i_405 f_406 => ⟨by kernel_rfl, by kernel_rfl⟩ | .L4 i_500 i_501 i_502 i_503 i_504 i_505 => ⟨by kernel_rfl, by kernel_rfl⟩⟩
theorem grid36 (n0 : Nat) (f0 : FnV) (n2 : Nat) (f2 : FnV) (n4 : Nat) (f4 : FnV) (n6 : Nat) (f6 : FnV) (x8 x9 : Int) (hg : GridIn f0 x8 x9) {e : Int} {bad : Bool} (he : (e != 0) = false) (hb : bad = false) (hm : ¬ 4000 < patM f0 x8 x9) :
    Ev (st36 n0 f0 n2 f2 n4 f4 n6 f6 x8 x9) (.L2 (cJ0 f0 x8 x9) 0 (cJ1 f0 x8 x9) (cI1 f0 x8 x9) (cI0 f0 x8 x9) (fun _ => [])) (patR (sqR x9) (patE e bad (patM f0 x8 x9) (patT (qR f0 x8 x9) f0 x8 x9)) (patT (qR f0 x8 x9) f0 x8 x9)) := by
  have b0 := hg.i0; have b1 := hg.i1; have b2 := hg.j0; have b3 := hg.j1; have b4 := hg.wi; have b5 := hg.wj
  have hlen := pat_len (q := qR f0 x8 x9) hg hm
  generalize hr : patR (sqR x9) (patE e bad (patM f0 x8 x9) (patT (qR f0 x8 x9) f0 x8 x9)) (patT (qR f0 x8 x9) f0 x8 x9) = r
  refine grid_ind (q := qR f0 x8 x9) (i0 := cI0 f0 x8 x9) (i1 := cI1 f0 x8 x9) (j0 := cJ0 f0 x8 x9) (j1 := cJ1 f0 x8 x9) (W := (cI1 f0 x8 x9 - cI0 f0 x8 x9 + 1).toNat) (Tot := patT (qR f0 x8 x9) f0 x8 x9)
    (P1 := fun j acc => ∀ n f, LR (sqR x9) n f acc -> acc.length <= 4000 -> Ev (st36 n0 f0 n2 f2 n4 f4 n6 f6 x8 x9) (.L2 j n (cJ1 f0 x8 x9) (cI1 f0 x8 x9) (cI0 f0 x8 x9) f) r)
    (P2 := fun i j acc => ∀ n f, LR (sqR x9) n f acc -> acc.length <= 4000 -> Ev (st36 n0 f0 n2 f2 n4 f4 n6 f6 x8 x9) (.L3 i j n (cJ1 f0 x8 x9) (cI1 f0 x8 x9) (cI0 f0 x8 x9) f) r)
    (by omega) ?_ ?_ ?_ ?_ ?_ (cJ1 f0 x8 x9 - cJ0 f0 x8 x9 + 1).toNat _ [] (Int.le_refl _) (by omega) rfl _ _ (LR.nil _ _) (by simp)
  · intro j acc h1 h2 hx n f hL hl
    exact Ev.of rfl (evBrT (decide_eq_true h2) (evEnter (hx _ _ hL.view hl)))
  · intro n f hL hl
    have hn := hL.1
    refine Ev.of rfl (evBrF (decide_eq_false (by omega)) (evBr (fun h => evObt (evRet ?_)) (fun h => evOb (decide_eq_true (Nat.le_refl _)) (evRet ?_))))
    · have h := of_decide_eq_true h
      rw [← hr, patE_4 he hb hm (by omega)]
      exact patR_err (by decide)
    · have h := of_decide_eq_false h
      rw [← hr, patE_5 he hb hm (by omega)]
      exact patR_ok0 hL fun _ _ => rfl
  · intro i j acc h1 h2 h3 h4 hq hT hx n f hL hl
    have hn := hL.1
    refine Ev.of rfl (evBrT (decide_eq_true h2) (evObc (evObt (evBrT hq (evObt (evOb ?_ (evNext ?_)))))))
    · simp only [Bool.and_eq_true]; exact ⟨decide_eq_true ⟨Nat.le_refl _, by omega⟩, rfl⟩
    · rw [w1i (by omega) (by omega)]
      exact hx _ _ (hL.snoc rfl rfl) (by simp; omega)
  · intro i j acc h1 h2 h3 h4 hq hx n f hL hl
    refine Ev.of rfl (evBrT (decide_eq_true h2) (evObc (evObt (evBrF hq (evNext ?_)))))
    rw [w1i (by omega) (by omega)]
    exact hx _ _ hL.view hl
  · intro j acc h1 h2 hx n f hL hl
    refine Ev.of rfl (evBrF (decide_eq_false (by omega)) (evNext ?_))
    rw [w1i (by omega) (by omega)]
    exact hx _ _ hL.view hl
theorem boxy36 (n0 : Nat) (f0 : FnV) (n2 : Nat) (f2 : FnV) (n4 : Nat) (f4 : FnV) (n6 : Nat) (f6 : FnV) (x8 x9 : Int) (hg : GridIn f0 x8 x9) (he : (F50_0 n0 (elV tyR f0) n2 (elV tyT f2) n4 (elV tyF f4) n6 (elV tyC f6) x8 (n0 : Int) != 0) = false) (hb : (!F71_0 x9 100 100000) = false) (x : Int) : ∀ k, k <= npt f0 x8 -> Ev (st36 n0 f0 n2 f2 n4 f4 n6 f6 x8 x9) (.L4 (k : Int) (mxTo (gyp f0 x8) k) (mnTo (gyp f0 x8) k) x (mxTo (gxp f0 x8) (npt f0 x8)) (mnTo (gxp f0 x8) (npt f0 x8))) (patR (sqR x9) (patE (F50_0 n0 (elV tyR f0) n2 (elV tyT f2) n4 (elV tyF f4) n6 (elV tyC f6) x8 (n0 : Int)) (!F71_0 x9 100 100000) (patM f0 x8 x9) (patT (qR f0 x8 x9) f0 x8 x9)) (patT (qR f0 x8 x9) f0 x8 x9)) := by
  have b0 := hg.mx; have b1 := hg.my; have b2 := hg.lx; have b3 := hg.ly; have b4 := hg.w1; have b5 := hg.w2; have b6 := hg.s1; have b7 := hg.s2
  have hw := patM_w hg
  have hn8 := hg.n8
  have d1 : F88_0 (i64.wrap (mxTo (gxp f0 x8) (npt f0 x8) + wid f0 x8)) x9 = cI1 f0 x8 x9 := by rw [wrapI (by omega) (by omega)]; exact down_r (by omega) (by omega) (by omega) (by omega)
  have d2 : F88_0 (i64.wrap (mnTo (gxp f0 x8) (npt f0 x8) - wid f0 x8)) x9 = cI0 f0 x8 x9 := by rw [wrapI (by omega) (by omega)]; exact down_r (by omega) (by omega) (by omega) (by omega)
  have d3 : F88_0 (i64.wrap (mxTo (gyp f0 x8) (npt f0 x8) + wid f0 x8)) x9 = cJ1 f0 x8 x9 := by rw [wrapI (by omega) (by omega)]; exact down_r (by omega) (by omega) (by omega) (by omega)
  have d4 : F88_0 (i64.wrap (mnTo (gyp f0 x8) (npt f0 x8) - wid f0 x8)) x9 = cJ0 f0 x8 x9 := by rw [wrapI (by omega) (by omega)]; exact down_r (by omega) (by omega) (by omega) (by omega)
  generalize hr : patR (sqR x9) (patE (F50_0 n0 (elV tyR f0) n2 (elV tyT f2) n4 (elV tyF f4) n6 (elV tyC f6) x8 (n0 : Int)) (!F71_0 x9 100 100000) (patM f0 x8 x9) (patT (qR f0 x8 x9) f0 x8 x9)) (patT (qR f0 x8 x9) f0 x8 x9) = r
  refine up_ind fun k hk ih => ?_
  refine Ev.of rfl (evAsm1 fun _ => ?_)
  by_cases hlt : k < npt f0 x8
  · have hk : (0 : Int) <= (k : Int) /\ (k : Int) < (npt f0 x8 : Int) := ⟨by omega, by omega⟩
    refine evBrT (decide_eq_true hk.2) (evOb (decide_eq_true hk) (evObt (evOb (decide_eq_true hk) (evObt (evNext ?_)))))
    have := ih hlt
    rw [wrapS hlt (by omega)]
    exact this
  · have e1 : k = npt f0 x8 := by omega
    subst e1
    have hx9 : x9 = 0 -> False := by omega
    refine evBrF (decide_eq_false (by show ¬ (npt f0 x8 : Int) < (npt f0 x8 : Int); omega)) (evObp hx9 (evObt (evObp hx9 (evObt (evObp hx9 (evObt (evObp hx9 (evObt ?_))))))))
    show evR _ (.br (decide (4000 < i64.wrap (i64.wrap (i64.wrap (F88_0 (i64.wrap (mxTo (gxp f0 x8) (npt f0 x8) + wid f0 x8)) x9 - F88_0 (i64.wrap (mnTo (gxp f0 x8) (npt f0 x8) - wid f0 x8)) x9) + 1) * i64.wrap (i64.wrap (F88_0 (i64.wrap (mxTo (gyp f0 x8) (npt f0 x8) + wid f0 x8)) x9 - F88_0 (i64.wrap (mnTo (gyp f0 x8) (npt f0 x8) - wid f0 x8)) x9) + 1)))) _ _) _
    refine evBr (fun h => evObt (evRet ?_)) (fun h => evEnter ?_)
    · have h := of_decide_eq_true h
      rw [d1, d2, d3, d4, hw] at h
      rw [← hr, patE_3 he hb h]
      exact patR_err (by decide)
    · have h := of_decide_eq_false h
      rw [d1, d2, d3, d4, hw] at h
      show Ev _ (S36.L2 (F88_0 (i64.wrap (mnTo (gyp f0 x8) (npt f0 x8) - wid f0 x8)) x9) 0 (F88_0 (i64.wrap (mxTo (gyp f0 x8) (npt f0 x8) + wid f0 x8)) x9) (F88_0 (i64.wrap (mxTo (gxp f0 x8) (npt f0 x8) + wid f0 x8)) x9) (F88_0 (i64.wrap (mnTo (gxp f0 x8) (npt f0 x8) - wid f0 x8)) x9) _) _
      rw [d1, d2, d3, d4, ← hr]
      exact grid36 _ _ _ _ _ _ _ _ _ _ hg he hb h
theorem boxx36 (n0 : Nat) (f0 : FnV) (n2 : Nat) (f2 : FnV) (n4 : Nat) (f4 : FnV) (n6 : Nat) (f6 : FnV) (x8 x9 : Int) (hg : GridIn f0 x8 x9) (he : (F50_0 n0 (elV tyR f0) n2 (elV tyT f2) n4 (elV tyF f4) n6 (elV tyC f6) x8 (n0 : Int) != 0) = false) (hb : (!F71_0 x9 100 100000) = false) : ∀ k, k <= npt f0 x8 -> Ev (st36 n0 f0 n2 f2 n4 f4 n6 f6 x8 x9) (.L0 (k : Int) (mxTo (gxp f0 x8) k) (mnTo (gxp f0 x8) k)) (patR (sqR x9) (patE (F50_0 n0 (elV tyR f0) n2 (elV tyT f2) n4 (elV tyF f4) n6 (elV tyC f6) x8 (n0 : Int)) (!F71_0 x9 100 100000) (patM f0 x8 x9) (patT (qR f0 x8 x9) f0 x8 x9)) (patT (qR f0 x8 x9) f0 x8 x9)) := by
  have hn8 := hg.n8; have hn2 := hg.n2
  have hy := boxy36 n0 f0 n2 f2 n4 f4 n6 f6 x8 x9 hg he hb
  generalize patR (sqR x9) (patE (F50_0 n0 (elV tyR f0) n2 (elV tyT f2) n4 (elV tyF f4) n6 (elV tyC f6) x8 (n0 : Int)) (!F71_0 x9 100 100000) (patM f0 x8 x9) (patT (qR f0 x8 x9) f0 x8 x9)) (patT (qR f0 x8 x9) f0 x8 x9) = r at *
  refine up_ind fun k hk ih => ?_
  refine Ev.of rfl (evAsm1 fun _ => ?_)
  by_cases hlt : k < npt f0 x8
  · have hk : (0 : Int) <= (k : Int) /\ (k : Int) < (npt f0 x8 : Int) := ⟨by omega, by omega⟩
    refine evBrT (decide_eq_true hk.2) (evOb (decide_eq_true hk) (evObt (evOb (decide_eq_true hk) (evObt (evNext ?_)))))
    have := ih hlt
    rw [wrapS hlt (by omega)]
    exact this
  · have e1 : k = npt f0 x8 := by omega
    subst e1
    have l0 : (0 : Int) <= 0 /\ (0 : Int) < (npt f0 x8 : Int) := ⟨by omega, by omega⟩
    exact evBrF (decide_eq_false (by show ¬ (npt f0 x8 : Int) < (npt f0 x8 : Int); omega)) (evOb (decide_eq_true l0) (evObt (evOb (decide_eq_true l0) (evObt (evEnter (hy _ 0 (Nat.zero_le _)))))))
theorem ev36_0 (n0 : Nat) (f0 : FnV) (n2 : Nat) (f2 : FnV) (n4 : Nat) (f4 : FnV) (n6 : Nat) (f6 : FnV) (x8 x9 : Int) (hp : SzOk n0 f0 /\ SzOk n6 f6) : evR (Ev (st36 n0 f0 n2 f2 n4 f4 n6 f6 x8 x9)) (m36 n0 f0 n2 f2 n4 f4 n6 f6 x8 x9) (patR (sqR x9) (patE (F50_0 n0 (elV tyR f0) n2 (elV tyT f2) n4 (elV tyF f4) n6 (elV tyC f6) x8 (n0 : Int)) (!F71_0 x9 100 100000) (patM f0 x8 x9) (patT (qR f0 x8 x9) f0 x8 x9)) (patT (qR f0 x8 x9) f0 x8 x9)) := evAsm1 fun hn => evObp hp (evObt (evBr (fun h => evOb h (evObc (evObt (evBr (fun h2 => evBrt (evObt (evRet (by rw [patE_2 (ntF h) h2]; exact patR_err (by decide))))) (fun h2 => evBry (ntF h) (by
  obtain ⟨⟨z1, z2⟩, hr⟩ := z36 n0 f0 n2 f2 n4 f4 n6 f6 x8 x9 (ntF h)
  have hb := from_in (tnT h2)
  have hg := grid_in hr hb.1 hb.2
  have n2' := hg.n2
  have l0 : (0 : Int) <= 0 /\ (0 : Int) < (npt f0 x8 : Int) := ⟨by omega, by omega⟩
  exact evOb (decide_eq_true ⟨z1, z2⟩) (evOb (decide_eq_true l0) (evObt (evOb (decide_eq_true l0) (evObt (evEnter (boxx36 _ _ _ _ _ _ _ _ _ _ hg (ntF h) h2 0 (Nat.zero_le _))))))))))))) (fun h => evBrx (ntT h) (evObt (evRet (by rw [patE_1 (ntT h)]; exact patR_err (by simpa using h)))))))
def F36_e (n0 : Nat) (f0 : FnV) (n2 : Nat) (f2 : FnV) (n4 : Nat) (f4 : FnV) (n6 : Nat) (f6 : FnV) (x8 x9 : Int) : Int := patE (F50_0 n0 (elV tyR f0) n2 (elV tyT f2) n4 (elV tyF f4) n6 (elV tyC f6) x8 (n0 : Int)) (!F71_0 x9 100 100000) (patM f0 x8 x9) (patT (qR f0 x8 x9) f0 x8 x9)
def F36_n (n0 : Nat) (f0 : FnV) (n2 : Nat) (f2 : FnV) (n4 : Nat) (f4 : FnV) (n6 : Nat) (f6 : FnV) (x8 x9 : Int) : Nat := (patL (F36_e n0 f0 n2 f2 n4 f4 n6 f6 x8 x9) (patT (qR f0 x8 x9) f0 x8 x9)).length
def F36_f (n0 : Nat) (f0 : FnV) (n2 : Nat) (f2 : FnV) (n4 : Nat) (f4 : FnV) (n6 : Nat) (f6 : FnV) (x8 x9 : Int) : Nat -> List V := boxF (sqR x9) (patL (F36_e n0 f0 n2 f2 n4 f4 n6 f6 x8 x9) (patT (qR f0 x8 x9) f0 x8 x9))
theorem ev36 (n0 : Nat) (f0 : FnV) (n2 : Nat) (f2 : FnV) (n4 : Nat) (f4 : FnV) (n6 : Nat) (f6 : FnV) (x8 x9 : Int) (hp : SzOk n0 (elV tyR f0) /\ SzOk n6 (elV tyC f6)) : evR (Ev (st36 n0 f0 n2 f2 n4 f4 n6 f6 x8 x9)) (m36 n0 f0 n2 f2 n4 f4 n6 f6 x8 x9) (.tup [.sl (F36_n n0 (elV tyR f0) n2 (elV tyT f2) n4 (elV tyF f4) n6 (elV tyC f6) x8 x9) (elV ty4 (F36_f n0 (elV tyR f0) n2 (elV tyT f2) n4 (elV tyF f4) n6 (elV tyC f6) x8 x9)), .int .i64 (F36_e n0 (elV tyR f0) n2 (elV tyT f2) n4 (elV tyF f4) n6 (elV tyC f6) x8 x9)]) := by
  show evR _ _ (patR (sqR x9) (patE (F50_0 n0 (elV tyR (elV tyR f0)) n2 (elV tyT (elV tyT f2)) n4 (elV tyF (elV tyF f4)) n6 (elV tyC (elV tyC f6)) x8 (n0 : Int)) (!F71_0 x9 100 100000) (patM (elV tyR f0) x8 x9) (patT (qR (elV tyR f0) x8 x9) (elV tyR f0) x8 x9)) (patT (qR (elV tyR f0) x8 x9) (elV tyR f0) x8 x9))
  rw [elV2, elV2, elV2, elV2, patT_w, patM_v]; exact ev36_0 n0 f0 n2 f2 n4 f4 n6 f6 x8 x9 hp
def R36 : List V -> V
  | [.agg [.sl n0 f0, .sl n2 f2, .sl n4 f4, .sl n6 f6], .int _ x8, .int _ x9] => .tup [.sl (F36_n n0 f0 n2 f2 n4 f4 n6 f6 x8 x9) (elV ty4 (F36_f n0 f0 n2 f2 n4 f4 n6 f6 x8 x9)), .int .i64 (F36_e n0 f0 n2 f2 n4 f4 n6 f6 x8 x9)]
  | _ => .any
def P36 : List V -> Prop
  | [.agg [.sl n0 f0, .sl n2 f2, .sl n4 f4, .sl n6 f6], .int _ x8, .int _ x9] => SzOk n0 f0 /\ SzOk n6 f6
  | _ => False
def tys36 : List Ty := [.agg [.sl tyR, .sl tyT, .sl tyF, .sl tyC], .int .i64, .int .i64]
def C36 : PCon := mkC tys36 P36 R36
theorem okl36 : ∀ ds d p r, C36 ds = some (d, p, r) -> d.1 = d.2 -> p -> okL 4 r := mkC_okL fun ds _ => patR_ok
theorem ok36 : (vL 4 29 C36).Ok Tryz.prog 36 := mkEL tabB26 Tryz.func36 (by kernel_rfl) fun ds hp => rfs (run36 ..) (ev36 _ _ _ _ _ _ _ _ _ _ hp)
end
end Go.Dx
namespace Go.Dx
open Go.Sx
section
variable {J : Type}
def normR : V -> Leaf J -> Leaf J
  | .bool b, .res (.kb _) => .res (.kb b)
  | r, _ => .res r
theorem normR_ok (r : V) (a : Leaf J) : topQ r (normR r a) := by
  unfold normR; split <;> rfl
def norm (r : V) : T (Leaf J) -> T (Leaf J)
  | .ret a => .ret (normR r a)
  | .br b x y => match b with
    | true => .br true (norm r x) y
    | false => .br false x (norm r y)
  | .ob _ x => .ob true (norm r x)
  | .obi c d x => match c with
    | true => .obi true true (norm r x)
    | false => .obi false d (norm r x)
  | .obp _ x => .obp True (norm r x)
  | .obq a _ x => .obq a a (norm r x)
  | .fail _ => .ret (.res r)
  | .loop .. => .ret (.res r)
  | .all f => .all fun l => norm r (f l)
  | .und x y => .und (norm r x) (norm r y)
  | .asm p x => .asm p (norm r x)
theorem norm_sat {LP : LPred} (r : V) : ∀ t : T (Leaf J), sat LP (norm r t) (topQ r) := by
  intro t
  induction t with
  | ret a => exact normR_ok r a
  | br b x y hx hy =>
    cases b with
    | true => exact ⟨fun _ => hx, (fun e => by cases e)⟩
    | false => exact ⟨(fun e => by cases e), fun _ => hy⟩
  | ob b x hx => exact ⟨rfl, hx⟩
  | obi c d x hx =>
    cases c with
    | true => exact ⟨fun _ => rfl, hx⟩
    | false => exact ⟨(fun e => by cases e), hx⟩
  | obp p x hx => exact ⟨trivial, hx⟩
  | obq a b x hx => exact ⟨rfl, hx⟩
  | fail n => exact (rfl : toA r = toA r)
  | loop fr b e h g k hk => exact (rfl : toA r = toA r)
  | all f hf => exact fun l => hf l
  | und x y hx hy => exact ⟨hx, hy⟩
  | asm p x hx => exact fun _ => hx
theorem run_norm {ct : CTab} {un : Unr} {w0 : World} {sf : SFun} {ds : List V} {r : V} (h : norm r (runL J ct un sf ds) = runL J ct un sf ds) : sat (LPof w0 (SV ct)) (runL J ct un sf ds) (topQ r) := by
  rw [← h]; exact norm_sat r _
end
def mkCB (ts : List Ty) (pre : List V -> Bool) (r : List V -> V) : PCon := fun ds => cond (pre (unqs ts ds)) (some ((fxLs ts ds [], fxRs ts ds []), True, r (unqs ts ds))) none
theorem mkCB_ok {P : Program} {f : FuncId} {ts : List Ty} {pre : List V -> Prop} {preB : List V -> Bool} {r : List V -> V} (h : ∀ ds, preB ds = true -> pre ds) (hO : (vP (mkC ts pre r)).Ok P f) : (vP (mkCB ts preB r)).Ok P f := by
  refine ⟨fun B m lh w args vs K hrel hargs hsp => ?_, fun _ _ _ _ _ hk ⟨ds, d, p, r, h1, h2, h3, h4, h5⟩ => ⟨ds, d, p, r, h1, h2, h3, h4, hk _ _ h5⟩, fun _ _ _ _ ⟨_, _, _, _, _, _, _, _, h⟩ => h⟩
  refine hO.sound B m lh w args vs K hrel hargs ?_
  obtain ⟨ds, d, p, r', h1, h2, ⟨h30, h3⟩, h4, h5⟩ := hsp
  unfold mkCB at h2
  cases hb : preB (unqs ts ds) with
  | false => rw [hb] at h2; cases h2
  | true =>
    rw [hb] at h2
    simp only [cond_true, Option.some.injEq, Prod.mk.injEq] at h2
    obtain ⟨rfl, rfl, rfl⟩ := h2
    exact ⟨ds, _, _, _, h1, rfl, ⟨h30, h _ hb⟩, h4, h5⟩
def eqL (p : V -> V -> Bool) : List V -> List V -> Bool
  | [], [] => true
  | v :: vs, x :: xs => p v x && eqL p vs xs
  | _, _ => false
def eqD : Nat -> V -> V -> Bool
  | 0, _, _ => false
  | fu + 1, v, x => match v, x with
    | .int k a, .int k' b => decide (k = k') && decide (a = b)
    | .bool a, .bool b => a == b
    | .kb a, .bool b => a == b
    | .str a, .str b => decide (a.data.toList = b.data.toList)
    | .agg xs, .agg ys => eqL (eqD fu) xs ys
    | .sl n f, .sl m g => Nat.beq n m && allB n fun i => eqL (eqD fu) (f i) (g i) && (g i).all V.fc
    | .sq n _ f, .sl m g => Nat.beq n m && allB n fun i => eqL (eqD fu) (f i) (g i) && (g i).all V.fc
    | _, _ => false
theorem eqL_ok {w0 : World} {lh : List LObj} {p : V -> V -> Bool} (hp : ∀ v x a, p v x = true -> vr w0 lh Nu.nil v a -> vr w0 lh Nu.nil x a) : ∀ (vs xs : List V) (qs : List AVal), eqL p vs xs = true -> vrs w0 lh Nu.nil vs qs -> vrs w0 lh Nu.nil xs qs
  | [], [], qs, _, h => h
  | v :: vs, x :: xs, qs, h, h1 => by
    simp only [eqL, Bool.and_eq_true] at h
    simp only [vrs] at h1 ⊢
    obtain ⟨y, ys, rfl, h2, h3⟩ := h1
    exact ⟨y, ys, rfl, hp _ _ _ h.1 h2, eqL_ok hp vs xs ys h.2 h3⟩
  | [], _ :: _, _, h, _ => by simp [eqL] at h
  | _ :: _, [], _, h, _ => by simp [eqL] at h
theorem eqD_ok {w0 : World} {lh : List LObj} : ∀ (fu : Nat) (v x : V) (a : AVal), eqD fu v x = true -> vr w0 lh Nu.nil v a -> vr w0 lh Nu.nil x a
  | 0, v, x, a, h, _ => by simp [eqD] at h
  | fu + 1, v, x, a, h, hv => by
    simp only [eqD] at h
    split at h
    · simp only [Bool.and_eq_true, decide_eq_true_eq] at h; obtain ⟨rfl, rfl⟩ := h; exact hv
    · have := eq_of_beq h; subst this; exact hv
    · have := eq_of_beq h; subst this; simp only [vr] at hv ⊢; exact hv
    · rename_i s t
      have h0 := of_decide_eq_true h
      have : s = t := by
        cases s with | mk d =>
        cases t with | mk e =>
        have : d = e := Array.toList_inj.1 h0
        rw [this]
      subst this; exact hv
    · simp only [vr] at hv ⊢
      obtain ⟨qs, rfl, h2⟩ := hv
      exact ⟨qs, rfl, eqL_ok (fun v x a => eqD_ok fu v x a) _ _ _ h h2⟩
    · simp only [Bool.and_eq_true] at h
      have hn := Nat.eq_of_beq_eq_true h.1
      subst hn
      simp only [vr] at hv ⊢
      obtain ⟨p, c, esz, h1, h2, h3, h4, h5⟩ := hv
      refine ⟨p, c, esz, h1, h2, h3, h4, fun i hi => ?_⟩
      obtain ⟨q, qs, g1, g2, g3, g4⟩ := h5 i hi
      have hh := allB_ok h.2 i hi
      simp only [Bool.and_eq_true] at hh
      exact ⟨q, qs, g1, g2, eqL_ok (fun v x a => eqD_ok fu v x a) _ _ _ hh.1 g3, hh.2⟩
    · simp only [Bool.and_eq_true] at h
      have hn := Nat.eq_of_beq_eq_true h.1
      subst hn
      simp only [vr] at hv ⊢
      obtain ⟨p, c, esz, h1, h2, h3, h4, h5⟩ := hv
      refine ⟨p, c, esz, h1, h2.1, h3, h4, fun i hi => ?_⟩
      obtain ⟨q, qs, g1, g2, g3, g4⟩ := h5 i hi
      have hh := allB_ok h.2 i hi
      simp only [Bool.and_eq_true] at hh
      exact ⟨q, qs, g1, g2, eqL_ok (fun v x a => eqD_ok fu v x a) _ _ _ hh.1 g3, hh.2⟩
    · cases h
def atC : List (List V × V) -> PCon
  | [], _ => none
  | (ex, r) :: l, ds => cond (eqL (eqD 8) ds ex) (some (([], []), True, r)) (atC l ds)
theorem atC_ok {P : Program} {f : FuncId} {C : PCon} (hO : (vP C).Ok P f) : ∀ (l : List (List V × V)), (∀ e ∈ l, ∃ d p, C e.1 = some (d, p, e.2) /\ d.1 = d.2 /\ p) -> (vP (atC l)).Ok P f := by
  intro l hl
  refine ⟨fun B m lh w args vs K hrel hargs hsp => ?_, fun _ _ _ _ _ hk ⟨ds, d, p, r, h1, h2, h3, h4, h5⟩ => ⟨ds, d, p, r, h1, h2, h3, h4, hk _ _ h5⟩, fun _ _ _ _ ⟨_, _, _, _, _, _, _, _, h⟩ => h⟩
  refine hO.sound B m lh w args vs K hrel hargs ?_
  obtain ⟨ds, d, p, r', h1, h2, _, h4, h5⟩ := hsp
  induction l with
  | nil => simp [atC] at h2
  | cons e l ih =>
    simp only [atC] at h2
    cases hb : eqL (eqD 8) ds e.1 with
    | true =>
      rw [hb] at h2
      simp only [cond_true, Option.some.injEq, Prod.mk.injEq] at h2
      obtain ⟨_, _, rfl⟩ := h2
      obtain ⟨d', p', e1, e2, e3⟩ := hl e (List.mem_cons_self ..)
      exact ⟨e.1, d', p', _, eqL_ok (fun v x a => eqD_ok 8 v x a) _ _ _ hb h1, e1, ⟨e2, e3⟩, h4, h5⟩
    | false =>
      rw [hb] at h2
      exact ih (fun e he => hl e (List.mem_cons_of_mem _ he)) h2
end Go.Dx
namespace Go.Dx
open Go.Sx
theorem at1 {ts : List Ty} {pre : List V -> Prop} {r : List V -> V} {raw : List V} {res : V} (hp : pre (unqs ts (views ts raw))) (hr : r (unqs ts (views ts raw)) = res) : ∃ d p, mkC ts pre r (views ts raw) = some (d, p, res) /\ d.1 = d.2 /\ p :=
  ⟨_, _, by rw [mkC, hr], fxs_views ts raw [], hp⟩
theorem all2 {α : Type} {a : α} {l : List α} {Q : α -> Prop} (h : Q a) (hl : ∀ e ∈ l, Q e) : ∀ e ∈ a :: l, Q e := fun e he => by
  rcases List.mem_cons.1 he with rfl | he
  · exact h
  · exact hl e he
theorem all0 {α : Type} {Q : α -> Prop} : ∀ e ∈ ([] : List α), Q e := fun e he => by cases he
end Go.Dx
namespace Go.Dx
open Go.IntKind (i64 u64 u8)
open Go.Sx Go.Proofs
set_option maxRecDepth 100000
set_option linter.unusedVariables false
set_option linter.unusedSimpArgs false
noncomputable section
def ctB17 : CTab := ctB20
theorem tabB17 : TabOk Tryz.prog eqs its ctB17 := tabB20
def uB : Unr := fun _ => 1000
def szB (n : Nat) (f : Nat -> List V) : Bool := allB n fun i => Nat.ble (sv (hdV (f i))).size 9223372036854775807
theorem szB_ok {n : Nat} {f : Nat -> List V} (h : szB n f = true) : SzOk n f := fun i hi => Nat.le_of_ble_eq_true (allB_ok h i hi)
def exN1 : ByteArray := ⟨#[104, 105, 103, 104]⟩
def exN2 : ByteArray := ⟨#[122, 101, 98, 114, 97]⟩
def exN3 : ByteArray := ⟨#[99, 49]⟩
def exR : Nat -> List V
  | 0 => [.str exN1, vi 0, .sl 3 (fun | 0 => [vi 0, vi 0] | 1 => [vi 10000, vi 0] | _ => [vi 10000, vi 10000]), vi 4000]
  | _ => [.str exN2, vi 3, .sl 2 (fun | 0 => [vi 5000, vi (-2000)] | _ => [vi 5000, vi 2000]), vi 3000]
def exT : Nat -> List V := fun _ => [vi 4000, vi 3000, vi 1000, vi 20, vi 40]
def exF : Nat -> List V := fun _ => [vi 10000, vi 5000, vi 0, vi 5000, .sl 1 fun _ => [vi 250, vi 750, vi 10, vi 30]]
def exK : Nat -> List V := fun _ => [.str exN3, vi 4000, vi 4000, vi 60, vi 0, vi (-1)]
def exS : V := .agg [.sl 2 exR, .sl 1 exT, .sl 1 exF, .sl 1 exK]
def ty44 : List Ty := [.agg [.sl tyR, .sl tyT, .sl tyF, .sl tyC], .sl tp1]
def AT44 : PCon := atC [(views ty44 [exS, .sl 2 (fun | 0 => [vi 0] | _ => [vi 1])], vi 0)]
theorem okA44 : (vP AT44).Ok Tryz.prog 44 := atC_ok ok44 _ (all2 (at1 (ts := ty44) (raw := [exS, .sl 2 (fun | 0 => [vi 0] | _ => [vi 1])]) (⟨⟨szB_ok (by kernel_rfl), szB_ok (by kernel_rfl)⟩, rfl, by decide⟩) (by kernel_rfl)) (all0))
def ty23 : List Ty := [.agg [.sl tyR, .sl tyT, .sl tyF, .sl tyC]]
def AT23 : PCon := atC [(views ty23 [.agg [.sl 0 exR, .sl 1 (fun _ => [vi 0, vi 0, vi 0, vi 0, vi 0]), .sl 0 exF, .sl 0 exK]], .tup [vi 2, vi 0, vi 7])]
theorem okA23 : (vP AT23).Ok Tryz.prog 23 := atC_ok ok23 _ (all2 (at1 (ts := ty23) (raw := [.agg [.sl 0 exR, .sl 1 (fun _ => [vi 0, vi 0, vi 0, vi 0, vi 0]), .sl 0 exF, .sl 0 exK]]) (⟨szB_ok (by kernel_rfl), szB_ok (by kernel_rfl)⟩) (by kernel_rfl)) (all0))
def ty22 : List Ty := [.agg [.sl tyR, .sl tyT, .sl tyF, .sl tyC], .int .i64, .agg tp4]
def AT22 : PCon := atC [(views ty22 [exS, vi 0, .agg [vi 8500, vi (-1500), vi 11500, vi 1500]], .tup [vi 1, vi 0])]
theorem okA22 : (vP AT22).Ok Tryz.prog 22 := atC_ok ok22 _ (all2 (at1 (ts := ty22) (raw := [exS, vi 0, .agg [vi 8500, vi (-1500), vi 11500, vi 1500]]) (⟨szB_ok (by kernel_rfl), szB_ok (by kernel_rfl)⟩) (by kernel_rfl)) (all0))
def ty15 : List Ty := [.agg [.sl tyR, .sl tyT, .sl tyF, .sl tyC], .int .i64, .int .i64, .int .i64]
def AT15 : PCon := atC [(views ty15 [exS, vi 0, vi 4000, vi 5000], .tup [vi (-1), vi 0])]
theorem okA15 : (vP AT15).Ok Tryz.prog 15 := atC_ok ok15 _ (all2 (at1 (ts := ty15) (raw := [exS, vi 0, vi 4000, vi 5000]) (⟨szB_ok (by kernel_rfl), szB_ok (by kernel_rfl)⟩) (by kernel_rfl)) (all0))
end
end Go.Dx
namespace Go.Dx
open Go.IntKind (i64 u64 u8)
open Go.Sx Go.Proofs
set_option maxRecDepth 100000
set_option linter.unusedVariables false
set_option linter.unusedSimpArgs false
noncomputable section
def ctB18 : CTab := [(44, .con AT44), (23, .con AT23), (22, .con AT22), (15, .con AT15), (55, .con C55), (61, .con C61), (108, .con C108), (46, .con C46), (111, .con C111), (56, .con C56), (47, .con C47), (145, .con C145), (140, .con C140), (49, .con C49), (123, .con C123), (124, .con C124), (50, .con C50), (91, .con C91), (24, .con C24), (70, .con C70), (62, .con C62), (68, .con C68), (63, .con C63), (69, .con C69), (117, .inl s117 u0), (116, .inl s116 u0), (115, .con C115), (114, .con C114), (73, .con C73), (147, .con C147), (64, .con C64), (66, .con C66), (113, .con C113), (65, .con C65), (67, .con C67), (53, .con C53), (58, .con C58), (122, .con C122), (72, .con C72), (45, .con C45), (90, .con C90), (119, .con C119), (121, .con C121), (99, .con C99), (129, .con C129), (148, .con C148), (149, .con C149), (112, .con C112), (118, .con C118), (120, .con C120), (51, .con C51), (133, .con C133), (103, .con C103), (106, .con C106), (100, .con C100), (150, .con C150), (134, .con C134), (135, .con C135), (137, .con C137), (138, .con C138), (78, .con C78), (54, .con C54), (59, .con C59), (48, .con C48), (102, .con C102), (171, .con C171), (81, .con C81), (88, .con C88), (84, .con C84), (85, .con C85), (127, .con C127), (101, .con C101), (86, .con C86), (71, .con C71), (93, .con C93), (92, .con C92), (79, .con C79), (136, .con C136), (144, .con C144), (125, .con C125), (162, .con C162), (146, .con C146), (83, .inl s83 u0), (19, .inl s19 uB), (17, .inl s17 uB), (43, .inl s43 uB), (57, .inl s57 uB), (109, .inl s109 uB), (139, .inl s139 uB), (163, .inl s163 uB), (177, .inl s177 uB), (141, .inl s141 uB), (142, .inl s142 uB), (143, .inl s143 uB), (131, .inl s131 uB), (161, .inl s161 uB)]
theorem tabB18 : TabOk Tryz.prog eqs its ctB18 := .con okA44 (.con okA23 (.con okA22 (.con okA15 (.con ok55 (.con ok61 (.con ok108 (.con ok46 (.con ok111 (.con ok56 (.con ok47 (.con ok145 (.con ok140 (.con ok49 (.con ok123 (.con ok124 (.con ok50 (.con ok91 (.con ok24 (.con ok70 (.con ok62 (.con ok68 (.con ok63 (.con ok69 (.inl Tryz.func117 (by kernel_rfl) (by kernel_rfl) (by kernel_rfl) (.inl Tryz.func116 (by kernel_rfl) (by kernel_rfl) (by kernel_rfl) (.con ok115 (.con ok114 (.con ok73 (.con ok147 (.con ok64 (.con ok66 (.con ok113 (.con ok65 (.con ok67 (.con ok53 (.con ok58 (.con ok122 (.con ok72 (.con ok45 (.con ok90 (.con ok119 (.con ok121 (.con ok99 (.con ok129 (.con ok148 (.con ok149 (.con ok112 (.con ok118 (.con ok120 (.con ok51 (.con ok133 (.con ok103 (.con ok106 (.con ok100 (.con ok150 (.con ok134 (.con ok135 (.con ok137 (.con ok138 (.con ok78 (.con ok54 (.con ok59 (.con ok48 (.con ok102 (.con ok171 (.con ok81 (.con ok88 (.con ok84 (.con ok85 (.con ok127 (.con ok101 (.con ok86 (.con ok71 (.con ok93 (.con ok92 (.con ok79 (.con ok136 (.con ok144 (.con ok125 (.con ok162 (.con ok146 (.inl Tryz.func83 (by kernel_rfl) (by kernel_rfl) (by kernel_rfl) (.inl Tryz.func19 (by kernel_rfl) (by kernel_rfl) (by kernel_rfl) (.inl Tryz.func17 (by kernel_rfl) (by kernel_rfl) (by kernel_rfl) (.inl Tryz.func43 (by kernel_rfl) (by kernel_rfl) (by kernel_rfl) (.inl Tryz.func57 (by kernel_rfl) (by kernel_rfl) (by kernel_rfl) (.inl Tryz.func109 (by kernel_rfl) (by kernel_rfl) (by kernel_rfl) (.inl Tryz.func139 (by kernel_rfl) (by kernel_rfl) (by kernel_rfl) (.inl Tryz.func163 (by kernel_rfl) (by kernel_rfl) (by kernel_rfl) (.inl Tryz.func177 (by kernel_rfl) (by kernel_rfl) (by kernel_rfl) (.inl Tryz.func141 (by kernel_rfl) (by kernel_rfl) (by kernel_rfl) (.inl Tryz.func142 (by kernel_rfl) (by kernel_rfl) (by kernel_rfl) (.inl Tryz.func143 (by kernel_rfl) (by kernel_rfl) (by kernel_rfl) (.inl Tryz.func131 (by kernel_rfl) (by kernel_rfl) (by kernel_rfl) (.inl Tryz.func161 (by kernel_rfl) (by kernel_rfl) (by kernel_rfl) (.nil))))))))))))))))))))))))))))))))))))))))))))))))))))))))))))))))))))))))))))))))))))))))))))))))
theorem run19 (w0 : World) : sat (LPof w0 (SV ctB18)) (runL (JJ) ctB18 uB s19 []) (topQ (.bool true)) := run_norm (by kernel_rfl)
def C19 : PCon := mkC [] (fun _ => True) fun _ => .bool true
theorem ok19 : (vP C19).Ok Tryz.prog 19 := mkC_ev (J := JJ) (un := uB) tabB18 hE hI Tryz.func19 (by kernel_rfl) (by kernel_rfl) (by kernel_rfl) rfl (fun w0 ds hp => run19 w0)
end
end Go.Dx
namespace Go.Dx
open Go.IntKind (i64 u64 u8)
open Go.Sx
noncomputable section
section
variable {n0 : Nat} {f0 : Nat -> List V} {n2 : Nat} {f2 : Nat -> List V} {n4 : Nat} {f4 : Nat -> List V} {n6 : Nat} {f6 : Nat -> List V} {x8 x9 : Int}
theorem step_eq (x : Int) : F86_0 x 100 100000 = !F71_0 x 100 100000 := by
  unfold F86_0 F71_0
  by_cases h1 : x < 100
  · have h2 : ¬ (100 <= x) := by omega
    simp [h1, h2]
  · have h2 : (100 <= x) := by omega
    by_cases h3 : 100000 < x
    · have h4 : ¬ x <= 100000 := by omega
      simp [h1, h2, h3, h4]
    · have h4 : x <= 100000 := by omega
      simp [h1, h2, h3, h4]
theorem ml {a b s : Int} (h : a <= b) (hs : 0 <= s) : a * s <= b * s := Int.mul_le_mul_of_nonneg_right h hs
theorem sq_in {lo hi s i : Int} (hs : 100 <= s) (hs2 : s <= 100000) (h1 : -130000 <= lo) (h2 : hi <= 130000) (a : lo / s <= i) (b : i <= hi / s) : -230000 <= i * s /\ i * s <= 130000 /\ (i + 1) * s = i * s + s := by
  have e1 := Int.ediv_mul_le hi (b := s) (by omega)
  have e2 := Int.lt_ediv_add_one_mul_self lo (show 0 < s by omega)
  rw [Int.add_mul, Int.one_mul] at e2
  have m1 := ml a (show 0 <= s by omega)
  have m2 := ml b (show 0 <= s by omega)
  exact ⟨by omega, by omega, by rw [Int.add_mul, Int.one_mul]⟩
theorem xs_in (h : GridIn f0 x8 x9) {i : Int} (a : cI0 f0 x8 x9 <= i) (b : i <= cI1 f0 x8 x9) : -230000 <= i * x9 /\ i * x9 <= 130000 /\ (i + 1) * x9 = i * x9 + x9 := by
  have := h.lx; have := h.mx; have := h.w2; have := h.w1
  exact sq_in h.s1 h.s2 (by omega) (by omega) a b
theorem ys_in (h : GridIn f0 x8 x9) {i : Int} (a : cJ0 f0 x8 x9 <= i) (b : i <= cJ1 f0 x8 x9) : -230000 <= i * x9 /\ i * x9 <= 130000 /\ (i + 1) * x9 = i * x9 + x9 := by
  have := h.ly; have := h.my; have := h.w2; have := h.w1
  exact sq_in h.s1 h.s2 (by omega) (by omega) a b
theorem sq_eq (h : GridIn f0 x8 x9) {i j : Int} (a : cI0 f0 x8 x9 <= i) (b : i <= cI1 f0 x8 x9) (c : cJ0 f0 x8 x9 <= j) (d : j <= cJ1 f0 x8 x9) :
    i64.wrap (i * x9) = i * x9 /\ i64.wrap (j * x9) = j * x9 /\ i64.wrap (i64.wrap (i + 1) * x9) = i * x9 + x9 /\ i64.wrap (i64.wrap (j + 1) * x9) = j * x9 + x9 /\ i64.wrap (i * x9 + x9) = i * x9 + x9 /\ i64.wrap (j * x9 + x9) = j * x9 + x9 := by
  obtain ⟨p1, p2, p3⟩ := xs_in h a b
  obtain ⟨r1, r2, r3⟩ := ys_in h c d
  have := h.s1; have := h.s2; have := h.i0; have := h.i1; have := h.j0; have := h.j1
  rw [w1i (i := i) (by omega) (by omega), w1i (i := j) (by omega) (by omega), p3, r3]
  exact ⟨wrapI (by omega) (by omega), wrapI (by omega) (by omega), wrapI (by omega) (by omega), wrapI (by omega) (by omega), wrapI (by omega) (by omega), wrapI (by omega) (by omega)⟩
theorem q_eq (hr : RoadIn (npt f0 x8) (ptf f0 x8) (wid f0 x8)) (h : GridIn f0 x8 x9) {i j : Int} (a : cI0 f0 x8 x9 <= i) (b : i <= cI1 f0 x8 x9) (c : cJ0 f0 x8 x9 <= j) (d : j <= cJ1 f0 x8 x9) : qP f0 x8 x9 i j = qR f0 x8 x9 i j := by
  obtain ⟨e1, e2, e3, e4, e5, e6⟩ := sq_eq h a b c d
  obtain ⟨p1, p2, p3⟩ := xs_in h a b
  obtain ⟨r1, r2, r3⟩ := ys_in h c d
  have := h.s1; have := h.s2
  unfold qP qR
  rw [e1, e2, e3, e4, e5, e6]
  rw [meets_eq hr (by unfold pl; omega) (by unfold pl; omega) (by unfold pl; omega) (by unfold pl; omega) (by omega) (by omega)]
theorem patT_eq (hr : RoadIn (npt f0 x8) (ptf f0 x8) (wid f0 x8)) (h : GridIn f0 x8 x9) : patT (qP f0 x8 x9) f0 x8 x9 = patT (qR f0 x8 x9) f0 x8 x9 := by
  have := h.wi; have := h.wj
  unfold patT
  exact gridF_congr fun i k h1 h2 h3 h4 => q_eq hr h h1 (by omega) h3 (by omega)
theorem box_eq (h : GridIn f0 x8 x9) {q : Int -> Int -> Bool} {k : Nat} : boxF (sqP x9) (patT q f0 x8 x9) k = boxF (sqR x9) (patT q f0 x8 x9) k := by
  unfold boxF
  cases hp : (patT q f0 x8 x9)[k]? with
  | none => rfl
  | some p =>
    have hm := List.mem_of_getElem? hp
    have := h.wi; have := h.wj
    unfold patT at hm
    obtain ⟨⟨h1, h2⟩, h3, h4, _⟩ := gridF_mem.1 hm
    obtain ⟨e1, e2, e3, e4, e5, e6⟩ := sq_eq h (i := p.1) (j := p.2) h3 (by omega) h1 (by omega)
    show sqP x9 p.1 p.2 = sqR x9 p.1 p.2
    unfold sqP sqR
    rw [e1, e2, e3, e4, e5, e6]
theorem pat_eq : F35_e n0 f0 n2 f2 n4 f4 n6 f6 x8 x9 = F36_e n0 f0 n2 f2 n4 f4 n6 f6 x8 x9 /\ F35_n n0 f0 n2 f2 n4 f4 n6 f6 x8 x9 = F36_n n0 f0 n2 f2 n4 f4 n6 f6 x8 x9 /\ ∀ k, F35_f n0 f0 n2 f2 n4 f4 n6 f6 x8 x9 k = F36_f n0 f0 n2 f2 n4 f4 n6 f6 x8 x9 k := by
  have hc := chk2 (n0 := n0) (f0 := f0) (n2 := n2) (f2 := f2) (n4 := n4) (f4 := f4) (n6 := n6) (f6 := f6) (i := x8) (m := n0) (fun h => by have := (valid h).l0; omega)
  have hd := chk50 (n0 := n0) (f0 := f0) (n2 := n2) (f2 := f2) (n4 := n4) (f4 := f4) (n6 := n6) (f6 := f6) (i := x8) (m := n0)
  have hc' : F44 n0 (elV tyR f0) n2 (elV tyT f2) n4 (elV tyF f4) n6 (elV tyC f6) 2 (elV tp1 (secF [vi x8, vi (n0 : Int)] 0 ((1 + 1 - 0) / 2))) = _ := hc
  unfold F35_n F36_n F35_f F36_f F35_e F36_e
  rw [hc', hd, step_eq]
  generalize hz : ix1 (F24_2 n0 (elV tyR f0) n2 (elV tyT f2) n4 (elV tyF f4) n6 (elV tyC f6)) x8 n0 = e
  have none : ∀ e' : Int, e' ≠ 0 -> (patL e' (patT (qP f0 x8 x9) f0 x8 x9)).length = (patL e' (patT (qR f0 x8 x9) f0 x8 x9)).length /\ ∀ k, boxF (sqP x9) (patL e' (patT (qP f0 x8 x9) f0 x8 x9)) k = boxF (sqR x9) (patL e' (patT (qR f0 x8 x9) f0 x8 x9)) k := fun e' h => by
    have : (e' == 0) = false := by simpa using h
    unfold patL
    rw [this]
    exact ⟨rfl, fun k => rfl⟩
  cases he : e != 0 with
  | true => rw [patE_1 he, patE_1 he]; exact ⟨rfl, none e (by simpa using he)⟩
  | false =>
    cases hb : !F71_0 x9 100 100000 with
    | true => rw [patE_2 he rfl, patE_2 he rfl]; exact ⟨rfl, none 7 (by decide)⟩
    | false =>
      have hb' := from_in (tnT hb)
      have hr := ix_road (hz.trans (by simpa using he))
      have hg := grid_in hr hb'.1 hb'.2
      by_cases hm : 4000 < patM f0 x8 x9
      · rw [patE_3 he rfl hm, patE_3 he rfl hm]; exact ⟨rfl, none 3 (by decide)⟩
      · rw [patT_eq hr hg]
        refine ⟨rfl, rfl, fun k => ?_⟩
        unfold patL
        cases (patE e false (patM f0 x8 x9) (patT (qR f0 x8 x9) f0 x8 x9) == 0) with
        | true => exact box_eq hg
        | false => rfl
end
end
end Go.Dx
namespace Go.Dx
open Go.IntKind (i64 u64 u8)
open Go.Sx Go.Proofs
set_option maxRecDepth 100000
set_option linter.unusedVariables false
set_option linter.unusedSimpArgs false
noncomputable section
def ctB27 : CTab := (19, .con C19) :: (35, .conL 4 29 C35 okl35) :: (36, .conL 4 29 C36 okl36) :: (76, .con C76) :: (126, .con C126) :: (151, .con C151) :: ctB17
theorem tabB27 : TabOk Tryz.prog eqs its ctB27 := .con ok19 (.conL ok35 (.conL ok36 (.con ok76 (.con ok126 (.con ok151 (tabB17))))))
attribute [local irreducible] F35_e F35_n F35_f F36_e F36_n F36_f
inductive S11 where
  | L0 (i_100 : Int)
def inv11 (n0 : Nat) (f0 : FnV) (n2 : Nat) (f2 : FnV) (n4 : Nat) (f4 : FnV) (n6 : Nat) (f6 : FnV) (x8 x9 : Int) : S11 -> Env × List O × Option Ex
  | .L0 i_100 => ([(11, vi i_100), (9, V.gs 0 (F36_n n0 (elV tyR f0) n2 (elV tyT f2) n4 (elV tyF f4) n6 (elV tyC f6) x8 x9)), (7, V.gs 1 (F35_n n0 (elV tyR f0) n2 (elV tyT f2) n4 (elV tyF f4) n6 (elV tyC f6) x8 x9))], [O.gl 4 (F36_n n0 (elV tyR f0) n2 (elV tyT f2) n4 (elV tyF f4) n6 (elV tyC f6) x8 x9) (elV ty4 (F36_f n0 (elV tyR f0) n2 (elV tyT f2) n4 (elV tyF f4) n6 (elV tyC f6) x8 x9)) 29, O.gl 4 (F35_n n0 (elV tyR f0) n2 (elV tyT f2) n4 (elV tyF f4) n6 (elV tyC f6) x8 x9) (elV ty4 (F35_f n0 (elV tyR f0) n2 (elV tyT f2) n4 (elV tyF f4) n6 (elV tyC f6) x8 x9)) 29], none)
def id11 : S11 -> JJ
  | .L0 i_100 => (0, [])
def rl11 (n0 : Nat) (f0 : FnV) (n2 : Nat) (f2 : FnV) (n4 : Nat) (f4 : FnV) (n6 : Nat) (f6 : FnV) (x8 x9 : Int) : T (Leaf JJ) := runL JJ ctB27 u0 s11 [scV n0 f0 n2 f2 n4 f4 n6 f6, vi x8, vi x9]
def lp11_0 (n0 : Nat) (f0 : FnV) (n2 : Nat) (f2 : FnV) (n4 : Nat) (f4 : FnV) (n6 : Nat) (f6 : FnV) (x8 x9 : Int) (cx : List Cx) : Lp JJ := lpT (atT (rl11 n0 f0 n2 f2 n4 f4 n6 f6 x8 x9) [false])
def lp11 (n0 : Nat) (f0 : FnV) (n2 : Nat) (f2 : FnV) (n4 : Nat) (f4 : FnV) (n6 : Nat) (f6 : FnV) (x8 x9 : Int) : JJ -> Lp JJ
  | (0, cx) => lp11_0 n0 f0 n2 f2 n4 f4 n6 f6 x8 x9 cx
  | (_, cx) => lp11_0 n0 f0 n2 f2 n4 f4 n6 f6 x8 x9 cx
def D11 (n0 : Nat) (f0 : FnV) (n2 : Nat) (f2 : FnV) (n4 : Nat) (f4 : FnV) (n6 : Nat) (f6 : FnV) (x8 x9 : Int) : LD JJ S11 := ⟨id11, lp11 n0 f0 n2 f2 n4 f4 n6 f6 x8 x9, inv11 n0 f0 n2 f2 n4 f4 n6 f6 x8 x9⟩
def st11 (n0 : Nat) (f0 : FnV) (n2 : Nat) (f2 : FnV) (n4 : Nat) (f4 : FnV) (n6 : Nat) (f6 : FnV) (x8 x9 : Int) : S11 -> RT S11
  | .L0 i_100 => .br (decide (i_100 < (↑(F35_n n0 (elV tyR f0) n2 (elV tyT f2) n4 (elV tyF f4) n6 (elV tyC f6) x8 x9) : Int))) (.ob (decide (0 <= i_100 /\ i_100 < (↑(F35_n n0 (elV tyR f0) n2 (elV tyT f2) n4 (elV tyF f4) n6 (elV tyC f6) x8 x9) : Int) /\ F35_n n0 (elV tyR f0) n2 (elV tyT f2) n4 (elV tyF f4) n6 (elV tyC f6) x8 x9 <= F35_n n0 (elV tyR f0) n2 (elV tyT f2) n4 (elV tyF f4) n6 (elV tyC f6) x8 x9)) (.ob (decide (i_100.toNat < F35_n n0 (elV tyR f0) n2 (elV tyT f2) n4 (elV tyF f4) n6 (elV tyC f6) x8 x9)) (.ob (decide (0 <= i_100 /\ i_100 < (↑(F36_n n0 (elV tyR f0) n2 (elV tyT f2) n4 (elV tyF f4) n6 (elV tyC f6) x8 x9) : Int) /\ F36_n n0 (elV tyR f0) n2 (elV tyT f2) n4 (elV tyF f4) n6 (elV tyC f6) x8 x9 <= F36_n n0 (elV tyR f0) n2 (elV tyT f2) n4 (elV tyF f4) n6 (elV tyC f6) x8 x9)) (.ob (decide (i_100.toNat < F36_n n0 (elV tyR f0) n2 (elV tyT f2) n4 (elV tyF f4) n6 (elV tyC f6) x8 x9)) (.br (!(iv (hdV (F35_f n0 (elV tyR f0) n2 (elV tyT f2) n4 (elV tyF f4) n6 (elV tyC f6) x8 x9 i_100.toNat)) == iv (hdV (F36_f n0 (elV tyR f0) n2 (elV tyT f2) n4 (elV tyF f4) n6 (elV tyC f6) x8 x9 i_100.toNat)) && (iv (hdV (tlV (F35_f n0 (elV tyR f0) n2 (elV tyT f2) n4 (elV tyF f4) n6 (elV tyC f6) x8 x9 i_100.toNat))) == iv (hdV (tlV (F36_f n0 (elV tyR f0) n2 (elV tyT f2) n4 (elV tyF f4) n6 (elV tyC f6) x8 x9 i_100.toNat))) && (iv (hdV (tlV (tlV (F35_f n0 (elV tyR f0) n2 (elV tyT f2) n4 (elV tyF f4) n6 (elV tyC f6) x8 x9 i_100.toNat)))) == iv (hdV (tlV (tlV (F36_f n0 (elV tyR f0) n2 (elV tyT f2) n4 (elV tyF f4) n6 (elV tyC f6) x8 x9 i_100.toNat)))) && (iv (hdV (tlV (tlV (tlV (F35_f n0 (elV tyR f0) n2 (elV tyT f2) n4 (elV tyF f4) n6 (elV tyC f6) x8 x9 i_100.toNat))))) == iv (hdV (tlV (tlV (tlV (F36_f n0 (elV tyR f0) n2 (elV tyT f2) n4 (elV tyF f4) n6 (elV tyC f6) x8 x9 i_100.toNat))))) && true))))) (.ret (V.kb false)) (.next [some (some 0), some (some 1)] (S11.L0 (i64.wrap (i_100 + 1))) [⟨0, ty4, F36_n n0 (elV tyR f0) n2 (elV tyT f2) n4 (elV tyF f4) n6 (elV tyC f6) x8 x9, elV ty4 (F36_f n0 (elV tyR f0) n2 (elV tyT f2) n4 (elV tyF f4) n6 (elV tyC f6) x8 x9), vf_view rfl _ _⟩, ⟨1, ty4, F35_n n0 (elV tyR f0) n2 (elV tyT f2) n4 (elV tyF f4) n6 (elV tyC f6) x8 x9, elV ty4 (F35_f n0 (elV tyR f0) n2 (elV tyT f2) n4 (elV tyF f4) n6 (elV tyC f6) x8 x9), vf_view rfl _ _⟩])))))) (.obc (.obt (.ret (V.bool true))))
def m11 (n0 : Nat) (f0 : FnV) (n2 : Nat) (f2 : FnV) (n4 : Nat) (f4 : FnV) (n6 : Nat) (f6 : FnV) (x8 x9 : Int) : RT S11 := .obp ((∀ (i : Nat), i < n0 -> (sv (hdV (f0 i))).size <= (9223372036854775807 : Nat)) /\ ∀ (i : Nat), i < n6 -> (sv (hdV (f6 i))).size <= (9223372036854775807 : Nat)) (.obp ((∀ (i : Nat), i < n0 -> (sv (hdV (f0 i))).size <= (9223372036854775807 : Nat)) /\ ∀ (i : Nat), i < n6 -> (sv (hdV (f6 i))).size <= (9223372036854775807 : Nat)) (.obi (.obi (.obi (.obi (.obi (.br (bif F35_e n0 (elV tyR f0) n2 (elV tyT f2) n4 (elV tyF f4) n6 (elV tyC f6) x8 x9 != F36_e n0 (elV tyR f0) n2 (elV tyT f2) n4 (elV tyF f4) n6 (elV tyC f6) x8 x9 then true else (↑(F35_n n0 (elV tyR f0) n2 (elV tyT f2) n4 (elV tyF f4) n6 (elV tyC f6) x8 x9) : Int) != (↑(F36_n n0 (elV tyR f0) n2 (elV tyT f2) n4 (elV tyF f4) n6 (elV tyC f6) x8 x9) : Int)) (.ret (V.kb false)) (.enter [some (some 2), some (some 1)] (S11.L0 (0)) [⟨0, ty4, F36_n n0 (elV tyR f0) n2 (elV tyT f2) n4 (elV tyF f4) n6 (elV tyC f6) x8 x9, elV ty4 (F36_f n0 (elV tyR f0) n2 (elV tyT f2) n4 (elV tyF f4) n6 (elV tyC f6) x8 x9), vf_view rfl _ _⟩, ⟨1, ty4, F35_n n0 (elV tyR f0) n2 (elV tyT f2) n4 (elV tyF f4) n6 (elV tyC f6) x8 x9, elV ty4 (F35_f n0 (elV tyR f0) n2 (elV tyT f2) n4 (elV tyF f4) n6 (elV tyC f6) x8 x9), vf_view rfl _ _⟩]))))))))
theorem run11 (n0 : Nat) (f0 : FnV) (n2 : Nat) (f2 : FnV) (n4 : Nat) (f4 : FnV) (n6 : Nat) (f6 : FnV) (x8 x9 : Int) : Fits ctB27 u0 (D11 n0 f0 n2 f2 n4 f4 n6 f6 x8 x9) (rl11 n0 f0 n2 f2 n4 f4 n6 f6 x8 x9) (m11 n0 f0 n2 f2 n4 f4 n6 f6 x8 x9) (st11 n0 f0 n2 f2 n4 f4 n6 f6 x8 x9) := ⟨⟨by kernel_rfl, by kernel_rfl⟩, fun s => match s with | .L0 i_100 => ⟨by kernel_rfl, by kernel_rfl⟩⟩
theorem evl11 (n0 : Nat) (f0 : FnV) (n2 : Nat) (f2 : FnV) (n4 : Nat) (f4 : FnV) (n6 : Nat) (f6 : FnV) (x8 x9 : Int) (hp : SzOk n0 f0 /\ SzOk n6 f6) : evR (Ev (st11 n0 f0 n2 f2 n4 f4 n6 f6 x8 x9)) (m11 n0 f0 n2 f2 n4 f4 n6 f6 x8 x9) (.bool true) := by
  obtain ⟨e1, e2, e3⟩ := pat_eq (n0 := n0) (f0 := elV tyR f0) (n2 := n2) (f2 := elV tyT f2) (n4 := n4) (f4 := elV tyF f4) (n6 := n6) (f6 := elV tyC f6) (x8 := x8) (x9 := x9)
  have hN : F35_n n0 (elV tyR f0) n2 (elV tyT f2) n4 (elV tyF f4) n6 (elV tyC f6) x8 x9 <= 400 := by unfold F35_n F35_e; exact patE_len
  refine evObp hp (evObp hp (evObi (evObi (evObi (evObi (evObi (evBrF ?_ (evEnter ?_))))))))
  · show (bif (F35_e n0 (elV tyR f0) n2 (elV tyT f2) n4 (elV tyF f4) n6 (elV tyC f6) x8 x9 != F36_e n0 (elV tyR f0) n2 (elV tyT f2) n4 (elV tyF f4) n6 (elV tyC f6) x8 x9) then true else ((F35_n n0 (elV tyR f0) n2 (elV tyT f2) n4 (elV tyF f4) n6 (elV tyC f6) x8 x9 : Nat) : Int) != ((F36_n n0 (elV tyR f0) n2 (elV tyT f2) n4 (elV tyF f4) n6 (elV tyC f6) x8 x9 : Nat) : Int)) = false
    rw [e1, e2]; simp
  · have key : ∀ k : Nat, k <= F35_n n0 (elV tyR f0) n2 (elV tyT f2) n4 (elV tyF f4) n6 (elV tyC f6) x8 x9 -> Ev (st11 n0 f0 n2 f2 n4 f4 n6 f6 x8 x9) (.L0 (k : Int)) (.bool true) := up_ind fun k hk ih => by
      by_cases hlt : k < F35_n n0 (elV tyR f0) n2 (elV tyT f2) n4 (elV tyF f4) n6 (elV tyC f6) x8 x9
      · have o1 : (0 : Int) <= (k : Int) /\ (k : Int) < ((F35_n n0 (elV tyR f0) n2 (elV tyT f2) n4 (elV tyF f4) n6 (elV tyC f6) x8 x9 : Nat) : Int) /\ F35_n n0 (elV tyR f0) n2 (elV tyT f2) n4 (elV tyF f4) n6 (elV tyC f6) x8 x9 <= F35_n n0 (elV tyR f0) n2 (elV tyT f2) n4 (elV tyF f4) n6 (elV tyC f6) x8 x9 := ⟨by omega, by omega, Nat.le_refl _⟩
        have o2 : (k : Int).toNat < F35_n n0 (elV tyR f0) n2 (elV tyT f2) n4 (elV tyF f4) n6 (elV tyC f6) x8 x9 := by omega
        refine Ev.of rfl (evBrT (decide_eq_true o1.2.1) (evOb (decide_eq_true o1) (evOb (decide_eq_true o2) (evOb (decide_eq_true (by rw [← e2]; exact o1)) (evOb (decide_eq_true (by rw [← e2]; exact o2)) (evBrF ?_ (evNext ?_)))))))
        · rw [e3 (k : Int).toNat]; simp
        · rw [wrapS hlt (by omega)]; exact ih hlt
      · exact Ev.of rfl (evBrF (decide_eq_false fun h => hlt (Int.ofNat_lt.1 h)) (evObc (evObt (evRet rfl))))
    exact key 0 (Nat.zero_le _)
def tys11 : List Ty := [.agg [.sl tyR, .sl tyT, .sl tyF, .sl tyC], .int .i64, .int .i64]
theorem ok11 : (vP (lawC tys11)).Ok Tryz.prog 11 := mkE tabB27 Tryz.func11 (by kernel_rfl) fun ds hp => rfs (run11 ..) (evl11 _ _ _ _ _ _ _ _ _ _ (by have h : szTys [.agg [.sl tyR, .sl tyT, .sl tyF, .sl tyC], .int .i64, .int .i64] _ := hp; exact ⟨fun i hi => (h.1.1 i hi).1, fun i hi => (h.1.2.2.2.1 i hi).1⟩))
end
end Go.Dx
